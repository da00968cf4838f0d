/-
  Models of the functions: what each computes, as a Lean function into Option. Definitions alone.
-/
import Derived.Test.YtmpjmcflooeigaaAEModel
namespace Go.AE.Y
open Go Go.AE
set_option linter.unusedVariables false

/-- laws.szTermS -/
noncomputable def laws_szTermS (a : List (Int × Int)) (left : Int) : Option Int :=
  rq (i64 (left - (a.length:Int))) <|
  cond (decide ((left - (a.length:Int)) < (0:Int))) (
    some (-1:Int)) (
    some (left - (a.length:Int)))

/-- laws.szConstraint -/
noncomputable def laws_szConstraint (a : (List (Int × Int)) × Int) (left : Int) : Option Int :=
  (laws_szTermS a.1 left).bind fun r1_ =>
  cond (decide (r1_ < (0:Int))) (
    some (-1:Int)) (
    some r1_)

/-- laws.szConstraintS -/
noncomputable def laws_szConstraintS_l1 (a : List ((List (Int × Int)) × Int)) : Int × Int → Option ((Int × Int) ⊕ Int) := fun (left1, i) =>
  cond (decide (i < (a.length:Int))) (
    rq (0 ≤ i ∧ i < a.length) <|
    (laws_szConstraint (a.getD i.toNat ([], 0)) left1).bind fun r1_ =>
    cond (decide (r1_ < (0:Int))) (
      some (.inr (-1:Int))) (
      rq (i64 (i + (1:Int))) <|
      some (.inl (r1_, (i + (1:Int)))))) (
    some (.inr left1))

noncomputable def laws_szConstraintS (a : List ((List (Int × Int)) × Int)) (left : Int) : Option Int :=
  rq (i64 (left - (a.length:Int))) <|
  cond (decide ((left - (a.length:Int)) < (0:Int))) (
    some (-1:Int)) (
    loop (laws_szConstraintS_l1 a) ((left - (a.length:Int)), (0:Int)))

/-- laws.toTerm -/
noncomputable def laws_toTerm (a : Int × Int) : Option ((Int × Int)) :=
  some a

/-- laws.toTermS -/
noncomputable def laws_toTermS_l1 (a : List (Int × Int)) : Int × (List (Int × Int)) → Option ((Int × (List (Int × Int))) ⊕ ((List (Int × Int)))) := fun (i, out) =>
  cond (decide (i < (a.length:Int))) (
    rq (0 ≤ i ∧ i < a.length) <|
    (laws_toTerm (a.getD i.toNat (0, 0))).bind fun r2_ =>
    rq (0 ≤ i ∧ i < out.length) <|
    rq (i64 (i + (1:Int))) <|
    some (.inl ((i + (1:Int)), (out.set i.toNat r2_)))) (
    some (.inr out))

noncomputable def laws_toTermS (a : List (Int × Int)) : Option ((List (Int × Int))) :=
  rq (0 ≤ (a.length:Int) ∧ (a.length:Int) ≤ bound ∧ (a.length:Int) = (a.length:Int)) <|
  loop (laws_toTermS_l1 a) ((0:Int), (List.replicate (a.length:Int).toNat (0, 0)))

/-- laws.toConstraint -/
noncomputable def laws_toConstraint (a : (List (Int × Int)) × Int) : Option (Int × (List (Int × Int))) :=
  (laws_toTermS a.1).bind fun r1_ =>
  some (a.2, r1_)

/-- laws.toConstraintS -/
noncomputable def laws_toConstraintS_l1 (a : List ((List (Int × Int)) × Int)) : Int × (List ((List (Int × Int)) × Int)) → Option ((Int × (List ((List (Int × Int)) × Int))) ⊕ ((List ((List (Int × Int)) × Int)))) := fun (i, out) =>
  cond (decide (i < (a.length:Int))) (
    rq (0 ≤ i ∧ i < a.length) <|
    (laws_toConstraint (a.getD i.toNat ([], 0))).bind fun r2_ =>
    rq (0 ≤ i ∧ i < out.length) <|
    rq (i64 (i + (1:Int))) <|
    some (.inl ((i + (1:Int)), (out.set i.toNat (r2_.2, r2_.1))))) (
    some (.inr out))

noncomputable def laws_toConstraintS (a : List ((List (Int × Int)) × Int)) : Option ((List ((List (Int × Int)) × Int))) :=
  rq (0 ≤ (a.length:Int) ∧ (a.length:Int) ≤ bound ∧ (a.length:Int) = (a.length:Int)) <|
  loop (laws_toConstraintS_l1 a) ((0:Int), (List.replicate (a.length:Int).toNat ([], 0)))

/-- laws.toBoolS -/
noncomputable def laws_toBoolS_l1 (a : List Bool) : Int × (List Bool) → Option ((Int × (List Bool)) ⊕ (List Bool)) := fun (i, out) =>
  cond (decide (i < (a.length:Int))) (
    rq (0 ≤ i ∧ i < a.length) <|
    rq (0 ≤ i ∧ i < out.length) <|
    rq (i64 (i + (1:Int))) <|
    some (.inl ((i + (1:Int)), (out.set i.toNat (a.getD i.toNat false))))) (
    some (.inr out))

noncomputable def laws_toBoolS (a : List Bool) : Option (List Bool) :=
  rq (0 ≤ (a.length:Int) ∧ (a.length:Int) ≤ bound ∧ (a.length:Int) = (a.length:Int)) <|
  loop (laws_toBoolS_l1 a) ((0:Int), (List.replicate (a.length:Int).toNat false))

/-- spec.l1Lit -/
noncomputable def spec_l1Lit (n : Int) : Option Bool :=
  cond (n != (0:Int)) (
    cond (decide ((-12:Int) ≤ n)) (
      some (decide (n ≤ (12:Int)))) (
      some false)) (
    some false)

/-- spec.l1Abs -/
noncomputable def spec_l1Abs (n : Int) : Option Int :=
  cond (decide (n < (0:Int))) (
    rq (i64 (0 - n)) <|
    some (0 - n)) (
    some n)

/-- spec.ConstraintValid -/
noncomputable def spec_ConstraintValid_l1 (c_ : (List (Int × Int)) × Int) : Int → Option (Int ⊕ Bool) := fun i =>
  cond (decide (i < (c_.1.length:Int))) (
    rq (0 ≤ i ∧ i < c_.1.length) <|
    (spec_l1Lit (c_.1.getD i.toNat (0, 0)).2).bind fun r4_ =>
    cond (!r4_) (
      some (.inr false)) (
      cond (decide ((c_.1.getD i.toNat (0, 0)).1 < (1:Int))) (
        some (.inr false)) (
        cond (decide ((1000:Int) < (c_.1.getD i.toNat (0, 0)).1)) (
          some (.inr false)) (
          cond (decide ((0:Int) < i)) (
            rq (i64 (i - (1:Int))) <|
            rq (0 ≤ (i - (1:Int)) ∧ (i - (1:Int)) < c_.1.length) <|
            (spec_l1Abs (c_.1.getD (i - (1:Int)).toNat (0, 0)).2).bind fun r5_ =>
            (spec_l1Abs (c_.1.getD i.toNat (0, 0)).2).bind fun r6_ =>
            cond (decide (r6_ ≤ r5_)) (
              some (.inr false)) (
              rq (i64 (i + (1:Int))) <|
              some (.inl (i + (1:Int))))) (
            rq (i64 (i + (1:Int))) <|
            some (.inl (i + (1:Int)))))))) (
    cond (decide ((0:Int) ≤ c_.2)) (
      some (.inr (decide (c_.2 ≤ (20000:Int))))) (
      some (.inr false)))

noncomputable def spec_ConstraintValid (c_ : (List (Int × Int)) × Int) : Option Bool :=
  loop (spec_ConstraintValid_l1 c_) (0:Int)

/-- spec.ProblemValid -/
noncomputable def spec_ProblemValid_l1 (list_ : List ((List (Int × Int)) × Int)) : Int → Option (Int ⊕ Bool) := fun i =>
  cond (decide (i < (list_.length:Int))) (
    rq (0 ≤ i ∧ i < list_.length) <|
    (spec_ConstraintValid (list_.getD i.toNat ([], 0))).bind fun r1_ =>
    cond (!r1_) (
      some (.inr false)) (
      rq (i64 (i + (1:Int))) <|
      some (.inl (i + (1:Int))))) (
    some (.inr (decide ((list_.length:Int) ≤ (400:Int)))))

noncomputable def spec_ProblemValid (list_ : List ((List (Int × Int)) × Int)) : Option Bool :=
  loop (spec_ProblemValid_l1 list_) (0:Int)

/-- spec.l1True -/
noncomputable def spec_l1True (values : List Bool) (lit : Int) : Option Bool :=
  cond (decide ((0:Int) < lit)) (
    rq (i64 (lit - (1:Int))) <|
    rq (0 ≤ (lit - (1:Int)) ∧ (lit - (1:Int)) < values.length) <|
    some (values.getD (lit - (1:Int)).toNat false)) (
    rq (i64 (0 - lit)) <|
    rq (i64 ((0 - lit) - (1:Int))) <|
    rq (0 ≤ ((0 - lit) - (1:Int)) ∧ ((0 - lit) - (1:Int)) < values.length) <|
    some (!(values.getD ((0 - lit) - (1:Int)).toNat false)))

/-- spec.l1Eval -/
noncomputable def spec_l1Eval_l1 (c_ : (List (Int × Int)) × Int) (values : List Bool) : Int × Int → Option ((Int × Int) ⊕ Bool) := fun (n, i) =>
  cond (decide (i < (c_.1.length:Int))) (
    rq (0 ≤ i ∧ i < c_.1.length) <|
    (spec_l1True values (c_.1.getD i.toNat (0, 0)).2).bind fun r1_ =>
    cond r1_ (
      rq (0 ≤ i ∧ i < c_.1.length) <|
      rq (i64 (n + (c_.1.getD i.toNat (0, 0)).1)) <|
      rq (i64 (i + (1:Int))) <|
      some (.inl ((n + (c_.1.getD i.toNat (0, 0)).1), (i + (1:Int))))) (
      rq (i64 (i + (1:Int))) <|
      some (.inl (n, (i + (1:Int)))))) (
    some (.inr (decide (c_.2 ≤ n))))

noncomputable def spec_l1Eval (c_ : (List (Int × Int)) × Int) (values : List Bool) : Option Bool :=
  loop (spec_l1Eval_l1 c_ values) ((0:Int), (0:Int))

/-- spec.l11Bad -/
noncomputable def spec_l11Bad_l1 (list_ : List ((List (Int × Int)) × Int)) (values : List Bool) : Int × Int → Option ((Int × Int) ⊕ Int) := fun (n, i) =>
  cond (decide (i < (list_.length:Int))) (
    rq (0 ≤ i ∧ i < list_.length) <|
    (spec_l1Eval (list_.getD i.toNat ([], 0)) values).bind fun r1_ =>
    cond (!r1_) (
      rq (i64 (n + (1:Int))) <|
      rq (i64 (i + (1:Int))) <|
      some (.inl ((n + (1:Int)), (i + (1:Int))))) (
      rq (i64 (i + (1:Int))) <|
      some (.inl (n, (i + (1:Int)))))) (
    some (.inr n))

noncomputable def spec_l11Bad (list_ : List ((List (Int × Int)) × Int)) (values : List Bool) : Option Int :=
  loop (spec_l11Bad_l1 list_ values) ((0:Int), (0:Int))

/-- spec.FlipBest -/
noncomputable def spec_FlipBest_j1 : Int × (List Bool) → Option (Int × Bool × (List Bool)) := fun (best1, out1) =>
  some (best1, true, out1)

noncomputable def spec_FlipBest_l1 (list_ : List ((List (Int × Int)) × Int)) (values : List Bool) : Int × Int × (List Bool) → Option ((Int × Int × (List Bool)) ⊕ (Int × Bool × (List Bool))) := fun (best, v, out) =>
  cond (decide (v < (12:Int))) (
    rq (([] : List Bool).length + values.length ≤ bound) <|
    rq (0 ≤ v ∧ v < (([] : List Bool) ++ values).length) <|
    rq (0 ≤ v ∧ v < (([] : List Bool) ++ values).length) <|
    (spec_l11Bad list_ ((([] : List Bool) ++ values).set v.toNat (!((([] : List Bool) ++ values).getD v.toNat false)))).bind fun r3_ =>
    cond (decide (best < (0:Int))) (
      rq (i64 (v + (1:Int))) <|
      some (.inl (r3_, (v + (1:Int)), ((([] : List Bool) ++ values).set v.toNat (!((([] : List Bool) ++ values).getD v.toNat false)))))) (
      cond (decide (r3_ < best)) (
        rq (i64 (v + (1:Int))) <|
        some (.inl (r3_, (v + (1:Int)), ((([] : List Bool) ++ values).set v.toNat (!((([] : List Bool) ++ values).getD v.toNat false)))))) (
        rq (i64 (v + (1:Int))) <|
        some (.inl (best, (v + (1:Int)), out))))) (
    up (spec_FlipBest_j1 (best, out)))

noncomputable def spec_FlipBest (list_ : List ((List (Int × Int)) × Int)) (values : List Bool) : Option (Int × Bool × (List Bool)) :=
  (spec_ProblemValid list_).bind fun r1_ =>
  cond (!r1_) (
    some ((0:Int), false, ([] : List Bool))) (
    cond ((values.length:Int) != (12:Int)) (
      some ((0:Int), false, ([] : List Bool))) (
      loop (spec_FlipBest_l1 list_ values) ((-1:Int), (0:Int), ([] : List Bool))))

/-- impl.within -/
noncomputable def impl_within (n : Int) (low : Int) (high : Int) : Option Bool :=
  cond (decide (low ≤ n)) (
    some (decide (n ≤ high))) (
    some false)

/-- impl.isLiteral -/
noncomputable def impl_isLiteral (l : Int) : Option Bool :=
  cond (l != (0:Int)) (
    (impl_within l (-12:Int) (12:Int)).bind fun r1_ =>
    some r1_) (
    some false)

/-- impl.variableOf -/
noncomputable def impl_variableOf (l : Int) : Option Int :=
  rq (i64 (0 - l)) <|
  some (max l (0 - l))

/-- impl.ConstraintValid -/
noncomputable def impl_ConstraintValid_l1 (c_ : (List (Int × Int)) × Int) : Int × Int → Option ((Int × Int) ⊕ Bool) := fun (before, i) =>
  cond (decide (i < (c_.1.length:Int))) (
    rq (0 ≤ i ∧ i < c_.1.length) <|
    (impl_isLiteral (c_.1.getD i.toNat (0, 0)).2).bind fun r1_ =>
    cond (!r1_) (
      some (.inr false)) (
      (impl_variableOf (c_.1.getD i.toNat (0, 0)).2).bind fun r2_ =>
      cond (decide (r2_ ≤ before)) (
        some (.inr false)) (
        (impl_within (c_.1.getD i.toNat (0, 0)).1 (1:Int) (1000:Int)).bind fun r3_ =>
        cond (!r3_) (
          some (.inr false)) (
          (impl_variableOf (c_.1.getD i.toNat (0, 0)).2).bind fun r4_ =>
          rq (i64 (i + (1:Int))) <|
          some (.inl (r4_, (i + (1:Int)))))))) (
    (impl_within c_.2 (0:Int) (20000:Int)).bind fun r5_ =>
    some (.inr r5_))

noncomputable def impl_ConstraintValid (c_ : (List (Int × Int)) × Int) : Option Bool :=
  loop (impl_ConstraintValid_l1 c_) ((0:Int), (0:Int))

/-- impl.allValid$1 -/
noncomputable def impl_allValid_1 (c_ : (List (Int × Int)) × Int) : Option Bool :=
  (impl_ConstraintValid c_).bind fun r1_ =>
  some (!r1_)

/-- slices.IndexFunc[[]impl.Constraint,impl.Constraint] -/
noncomputable def slices_IndexFunc_impl_Constraint__impl_allValid_1_l1 (s_ : List ((List (Int × Int)) × Int)) : Int → Option (Int ⊕ Int) := fun i =>
  cond (decide (i < (s_.length:Int))) (
    rq (0 ≤ i ∧ i < s_.length) <|
    (impl_allValid_1 (s_.getD i.toNat ([], 0))).bind fun r1_ =>
    cond r1_ (
      some (.inr i)) (
      rq (i64 (i + (1:Int))) <|
      some (.inl (i + (1:Int))))) (
    some (.inr (-1:Int)))

noncomputable def slices_IndexFunc_impl_Constraint__impl_allValid_1 (s_ : List ((List (Int × Int)) × Int)) : Option Int :=
  loop (slices_IndexFunc_impl_Constraint__impl_allValid_1_l1 s_) (0:Int)

/-- slices.ContainsFunc[[]impl.Constraint,impl.Constraint] -/
noncomputable def slices_ContainsFunc_impl_Constraint__impl_allValid_1 (s_ : List ((List (Int × Int)) × Int)) : Option Bool :=
  (slices_IndexFunc_impl_Constraint__impl_allValid_1 s_).bind fun r1_ =>
  some (decide ((0:Int) ≤ r1_))

/-- impl.allValid -/
noncomputable def impl_allValid (list_ : List ((List (Int × Int)) × Int)) : Option Bool :=
  (slices_ContainsFunc_impl_Constraint__impl_allValid_1 list_).bind fun r1_ =>
  some (!r1_)

/-- impl.ProblemValid -/
noncomputable def impl_ProblemValid (list_ : List ((List (Int × Int)) × Int)) : Option Bool :=
  cond (decide ((list_.length:Int) ≤ (400:Int))) (
    (impl_allValid list_).bind fun r1_ =>
    some r1_) (
    some false)

/-- slices.Clone[[]bool,bool] -/
noncomputable def slices_Clone_bool (s_ : List Bool) : Option (List Bool) :=
  nt (s_ = []) (
    some ([] : List Bool)) (
    rq (([] : List Bool).length + s_.length ≤ bound) <|
    some (([] : List Bool) ++ s_))

/-- impl.holds -/
noncomputable def impl_holds (l : Int) (values : List Bool) : Option Bool :=
  (impl_variableOf l).bind fun r1_ =>
  rq (i64 (r1_ - (1:Int))) <|
  rq (0 ≤ (r1_ - (1:Int)) ∧ (r1_ - (1:Int)) < values.length) <|
  some ((values.getD (r1_ - (1:Int)).toNat false) == (decide ((0:Int) < l)))

/-- (impl.Constraint).holds -/
noncomputable def impl_Constraint_holds_l1 (c_ : (List (Int × Int)) × Int) (values : List Bool) : Int × Int → Option ((Int × Int) ⊕ Bool) := fun (sum, i) =>
  cond (decide (i < (c_.1.length:Int))) (
    rq (0 ≤ i ∧ i < c_.1.length) <|
    (impl_holds (c_.1.getD i.toNat (0, 0)).2 values).bind fun r1_ =>
    cond r1_ (
      rq (i64 (sum + (c_.1.getD i.toNat (0, 0)).1)) <|
      rq (i64 (i + (1:Int))) <|
      some (.inl ((sum + (c_.1.getD i.toNat (0, 0)).1), (i + (1:Int))))) (
      rq (i64 (i + (1:Int))) <|
      some (.inl (sum, (i + (1:Int)))))) (
    some (.inr (decide (c_.2 ≤ sum))))

noncomputable def impl_Constraint_holds (c_ : (List (Int × Int)) × Int) (values : List Bool) : Option Bool :=
  loop (impl_Constraint_holds_l1 c_ values) ((0:Int), (0:Int))

/-- impl.violations -/
noncomputable def impl_violations_l1 (list_ : List ((List (Int × Int)) × Int)) (values : List Bool) : Int × Int → Option ((Int × Int) ⊕ Int) := fun (count, i) =>
  cond (decide (i < (list_.length:Int))) (
    rq (0 ≤ i ∧ i < list_.length) <|
    (impl_Constraint_holds (list_.getD i.toNat ([], 0)) values).bind fun r1_ =>
    cond (!r1_) (
      rq (i64 (count + (1:Int))) <|
      rq (i64 (i + (1:Int))) <|
      some (.inl ((count + (1:Int)), (i + (1:Int))))) (
      rq (i64 (i + (1:Int))) <|
      some (.inl (count, (i + (1:Int)))))) (
    some (.inr count))

noncomputable def impl_violations (list_ : List ((List (Int × Int)) × Int)) (values : List Bool) : Option Int :=
  loop (impl_violations_l1 list_ values) ((0:Int), (0:Int))

/-- impl.FlipBest -/
noncomputable def impl_FlipBest_j1 : Int × (List Bool) → Option (Int × Bool × (List Bool)) := fun (least1, best1) =>
  some (least1, true, best1)

noncomputable def impl_FlipBest_l1 (list_ : List ((List (Int × Int)) × Int)) (values : List Bool) : Int × Int × (List Bool) → Option ((Int × Int × (List Bool)) ⊕ (Int × Bool × (List Bool))) := fun (least, i, best) =>
  cond (decide (i < (values.length:Int))) (
    (slices_Clone_bool values).bind fun r4_ =>
    rq (0 ≤ i ∧ i < r4_.length) <|
    rq (0 ≤ i ∧ i < r4_.length) <|
    (impl_violations list_ (r4_.set i.toNat (!(r4_.getD i.toNat false)))).bind fun r5_ =>
    cond best.isEmpty (
      rq (i64 (i + (1:Int))) <|
      rq ((r4_.set i.toNat (!(r4_.getD i.toNat false))) ≠ []) <|
      some (.inl (r5_, (i + (1:Int)), (r4_.set i.toNat (!(r4_.getD i.toNat false)))))) (
      cond (decide (r5_ < least)) (
        rq (i64 (i + (1:Int))) <|
        rq ((r4_.set i.toNat (!(r4_.getD i.toNat false))) ≠ []) <|
        some (.inl (r5_, (i + (1:Int)), (r4_.set i.toNat (!(r4_.getD i.toNat false)))))) (
        rq (i64 (i + (1:Int))) <|
        some (.inl (least, (i + (1:Int)), best))))) (
    up (impl_FlipBest_j1 (least, best)))

noncomputable def impl_FlipBest (list_ : List ((List (Int × Int)) × Int)) (values : List Bool) : Option (Int × Bool × (List Bool)) :=
  (impl_ProblemValid list_).bind fun r1_ =>
  cond (!r1_) (
    some ((0:Int), false, ([] : List Bool))) (
    cond ((values.length:Int) != (12:Int)) (
      some ((0:Int), false, ([] : List Bool))) (
      loop (impl_FlipBest_l1 list_ values) ((0:Int), (0:Int), ([] : List Bool))))

/-- laws.eqBoolS -/
noncomputable def laws_eqBoolS_l1 (a : List Bool) (b : List Bool) : Int → Option (Int ⊕ Bool) := fun i =>
  cond (decide (i < (a.length:Int))) (
    rq (0 ≤ i ∧ i < a.length) <|
    rq (0 ≤ i ∧ i < b.length) <|
    cond ((a.getD i.toNat false) != (b.getD i.toNat false)) (
      some (.inr false)) (
      rq (i64 (i + (1:Int))) <|
      some (.inl (i + (1:Int))))) (
    some (.inr true))

noncomputable def laws_eqBoolS (a : List Bool) (b : List Bool) : Option Bool :=
  cond ((a.length:Int) != (b.length:Int)) (
    some false) (
    loop (laws_eqBoolS_l1 a b) (0:Int))

/-- laws.eqTerm -/
noncomputable def laws_eqTerm (a : Int × Int) (b : Int × Int) : Option Bool :=
  cond (a.1 != b.1) (
    some false) (
    cond (a.2 != b.2) (
      some false) (
      some true))

/-- laws.eqTermS -/
noncomputable def laws_eqTermS_l1 (a : List (Int × Int)) (b : List (Int × Int)) : Int → Option (Int ⊕ Bool) := fun i =>
  cond (decide (i < (a.length:Int))) (
    rq (0 ≤ i ∧ i < a.length) <|
    rq (0 ≤ i ∧ i < b.length) <|
    (laws_eqTerm (a.getD i.toNat (0, 0)) (b.getD i.toNat (0, 0))).bind fun r2_ =>
    cond (!r2_) (
      some (.inr false)) (
      rq (i64 (i + (1:Int))) <|
      some (.inl (i + (1:Int))))) (
    some (.inr true))

noncomputable def laws_eqTermS (a : List (Int × Int)) (b : List (Int × Int)) : Option Bool :=
  cond ((a.length:Int) != (b.length:Int)) (
    some false) (
    loop (laws_eqTermS_l1 a b) (0:Int))

/-- laws.eqConstraint -/
noncomputable def laws_eqConstraint (a : (List (Int × Int)) × Int) (b : (List (Int × Int)) × Int) : Option Bool :=
  (laws_eqTermS a.1 b.1).bind fun r1_ =>
  cond (!r1_) (
    some false) (
    cond (a.2 != b.2) (
      some false) (
      some true))

/-- laws.eqConstraintS -/
noncomputable def laws_eqConstraintS_l1 (a : List ((List (Int × Int)) × Int)) (b : List ((List (Int × Int)) × Int)) : Int → Option (Int ⊕ Bool) := fun i =>
  cond (decide (i < (a.length:Int))) (
    rq (0 ≤ i ∧ i < a.length) <|
    rq (0 ≤ i ∧ i < b.length) <|
    (laws_eqConstraint (a.getD i.toNat ([], 0)) (b.getD i.toNat ([], 0))).bind fun r2_ =>
    cond (!r2_) (
      some (.inr false)) (
      rq (i64 (i + (1:Int))) <|
      some (.inl (i + (1:Int))))) (
    some (.inr true))

noncomputable def laws_eqConstraintS (a : List ((List (Int × Int)) × Int)) (b : List ((List (Int × Int)) × Int)) : Option Bool :=
  cond ((a.length:Int) != (b.length:Int)) (
    some false) (
    loop (laws_eqConstraintS_l1 a b) (0:Int))

/-- laws.markTermS -/
noncomputable def laws_markTermS__d_l1 : Int × Int × (List (Int × Int)) → Option ((Int × Int × (List (Int × Int))) ⊕ (Int × (List (Int × Int)))) := fun (k_1, i, a1) =>
  cond (decide (i < (a1.length:Int))) (
    rq (0 ≤ i ∧ i < a1.length) <|
    rq (i64 (k_1 + (1:Int))) <|
    rq (0 ≤ i ∧ i < (a1.set i.toNat (k_1, (a1.getD i.toNat (0, 0)).2)).length) <|
    rq (i64 ((k_1 + (1:Int)) + (1:Int))) <|
    rq (i64 (i + (1:Int))) <|
    some (.inl (((k_1 + (1:Int)) + (1:Int)), (i + (1:Int)), ((a1.set i.toNat (k_1, (a1.getD i.toNat (0, 0)).2)).set i.toNat (((a1.set i.toNat (k_1, (a1.getD i.toNat (0, 0)).2)).getD i.toNat (0, 0)).1, (k_1 + (1:Int))))))) (
    some (.inr (k_1, a1)))

noncomputable def laws_markTermS__d (k_ : Int) (a : List (Int × Int)) : Option (Int × (List (Int × Int))) :=
  loop (laws_markTermS__d_l1) (k_, (0:Int), a)

/-- laws.markConstraintS -/
noncomputable def laws_markConstraintS_l1 : Int × Int × (List ((List (Int × Int)) × Int)) → Option ((Int × Int × (List ((List (Int × Int)) × Int))) ⊕ (Int × (List ((List (Int × Int)) × Int)))) := fun (k_1, i, a1) =>
  cond (decide (i < (a1.length:Int))) (
    rq (0 ≤ i ∧ i < a1.length) <|
    (laws_markTermS__d k_1 (a1.getD i.toNat ([], 0)).1).bind fun r2_ =>
    rq (0 ≤ i ∧ i < a1.length) <|
    rq (i64 (r2_.1 + (1:Int))) <|
    rq (i64 (i + (1:Int))) <|
    some (.inl ((r2_.1 + (1:Int)), (i + (1:Int)), ((a1.set i.toNat ((a1.getD i.toNat ([], 0)).1, r2_.1)).set i.toNat (r2_.2, ((a1.set i.toNat ((a1.getD i.toNat ([], 0)).1, r2_.1)).getD i.toNat ([], 0)).2))))) (
    some (.inr (k_1, a1)))

noncomputable def laws_markConstraintS (k_ : Int) (a : List ((List (Int × Int)) × Int)) : Option (Int × (List ((List (Int × Int)) × Int))) :=
  loop (laws_markConstraintS_l1) (k_, (0:Int), a)

/-- laws.markBoolS -/
noncomputable def laws_markBoolS_l1 : Int × Int × (List Bool) → Option ((Int × Int × (List Bool)) ⊕ (Int × (List Bool))) := fun (k_1, i, a1) =>
  cond (decide (i < (a1.length:Int))) (
    rq (1 ≤ (3:Int) ∧ 0 ≤ k_1) <|
    rq (0 ≤ i ∧ i < a1.length) <|
    rq (i64 (k_1 + (1:Int))) <|
    rq (i64 (i + (1:Int))) <|
    some (.inl ((k_1 + (1:Int)), (i + (1:Int)), (a1.set i.toNat ((k_1 % (3:Int)) == (0:Int)))))) (
    some (.inr (k_1, a1)))

noncomputable def laws_markBoolS (k_ : Int) (a : List Bool) : Option (Int × (List Bool)) :=
  loop (laws_markBoolS_l1) (k_, (0:Int), a)

/-- laws.heldBoolS -/
noncomputable def laws_heldBoolS_l1 (a : List Bool) : Int × Int → Option ((Int × Int) ⊕ Int) := fun (k_1, i) =>
  cond (decide (i < (a.length:Int))) (
    rq (0 ≤ i ∧ i < a.length) <|
    rq (1 ≤ (3:Int) ∧ 0 ≤ k_1) <|
    cond ((a.getD i.toNat false) != ((k_1 % (3:Int)) == (0:Int))) (
      some (.inr (-1:Int))) (
      rq (i64 (k_1 + (1:Int))) <|
      rq (i64 (i + (1:Int))) <|
      some (.inl ((k_1 + (1:Int)), (i + (1:Int)))))) (
    some (.inr k_1))

noncomputable def laws_heldBoolS (a : List Bool) (k_ : Int) : Option Int :=
  loop (laws_heldBoolS_l1 a) (k_, (0:Int))

/-- laws.FnExactFlipBest -/
noncomputable def laws_FnExactFlipBest (a0 : List ((List (Int × Int)) × Int)) (a1 : List Bool) : Option Bool :=
  cond (decide ((1048576:Int) < (a1.length:Int))) (
    some true) (
    (laws_szConstraintS a0 (1048576:Int)).bind fun r1_ =>
    cond (decide (r1_ < (0:Int))) (
      some true) (
      (laws_toConstraintS a0).bind fun r2_ =>
      (laws_toBoolS a1).bind fun r3_ =>
      (spec_FlipBest r2_ r3_).bind fun r4_ =>
      (laws_toConstraintS a0).bind fun r5_ =>
      (laws_toBoolS a1).bind fun r6_ =>
      (impl_FlipBest r5_ r6_).bind fun r7_ =>
      (laws_eqBoolS r7_.2.2 r4_.2.2).bind fun r8_ =>
      cond (!r8_) (
        some false) (
        cond (r7_.1 != r4_.1) (
          some false) (
          cond (r7_.2.1 != r4_.2.1) (
            some false) (
            (laws_toConstraintS a0).bind fun r9_ =>
            (laws_eqConstraintS r5_ r9_).bind fun r10_ =>
            cond (!r10_) (
              some false) (
              (laws_toBoolS a1).bind fun r11_ =>
              (laws_eqBoolS r6_ r11_).bind fun r12_ =>
              cond (!r12_) (
                some false) (
                (laws_markConstraintS (1:Int) r5_).bind fun r13_ =>
                (laws_markBoolS r13_.1 r6_).bind fun r14_ =>
                cond (decide (r14_.1 < (0:Int))) (
                  some false) (
                  (laws_eqBoolS r7_.2.2 r4_.2.2).bind fun r15_ =>
                  cond (!r15_) (
                    some false) (
                    cond (r7_.1 != r4_.1) (
                      some false) (
                      cond (r7_.2.1 != r4_.2.1) (
                        some false) (
                        (laws_markBoolS (1:Int) r7_.2.2).bind fun r16_ =>
                        (laws_heldBoolS r16_.2 (1:Int)).bind fun r17_ =>
                        cond (decide (r17_ < (0:Int))) (
                          some false) (
                          cond (r17_ != r16_.1) (
                            some false) (
                            (laws_toConstraintS a0).bind fun r18_ =>
                            (laws_toBoolS a1).bind fun r19_ =>
                            (impl_FlipBest r18_ r19_).bind fun r20_ =>
                            (laws_eqBoolS r20_.2.2 r4_.2.2).bind fun r21_ =>
                            cond (!r21_) (
                              some false) (
                              cond (r20_.1 != r4_.1) (
                                some false) (
                                cond (r20_.2.1 != r4_.2.1) (
                                  some false) (
                                  (laws_heldBoolS r16_.2 (1:Int)).bind fun r22_ =>
                                  cond (decide (r22_ < (0:Int))) (
                                    some false) (
                                    cond (r22_ != r16_.1) (
                                      some false) (
                                      some true))))))))))))))))))

end Go.AE.Y
