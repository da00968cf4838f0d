/-
  Models of the functions: what each computes, as a Lean function into Option. Definitions alone.
-/
import Derived.Test.YtmpjmcflooeigaaAEModel
namespace Go.AE.Y
open Go Go.AE
set_option linter.unusedVariables false

/-- laws.szTermS -/
noncomputable def laws_szTermS (a : List (Int × Int)) (left : Int) : Option Int :=
  rq (i64 (left - (a.length:Int))) <|
  cond (decide ((left - (a.length:Int)) < (0:Int))) (
    some (-1:Int)) (
    some (left - (a.length:Int)))

/-- laws.szConstraint -/
noncomputable def laws_szConstraint (a : (List (Int × Int)) × Int) (left : Int) : Option Int :=
  (laws_szTermS a.1 left).bind fun r1_ =>
  cond (decide (r1_ < (0:Int))) (
    some (-1:Int)) (
    some r1_)

/-- laws.szConstraintS -/
noncomputable def laws_szConstraintS_l1 (a : List ((List (Int × Int)) × Int)) : Int × Int → Option ((Int × Int) ⊕ Int) := fun (left1, i) =>
  cond (decide (i < (a.length:Int))) (
    rq (0 ≤ i ∧ i < a.length) <|
    (laws_szConstraint (a.getD i.toNat ([], 0)) left1).bind fun r1_ =>
    cond (decide (r1_ < (0:Int))) (
      some (.inr (-1:Int))) (
      rq (i64 (i + (1:Int))) <|
      some (.inl (r1_, (i + (1:Int)))))) (
    some (.inr left1))

noncomputable def laws_szConstraintS (a : List ((List (Int × Int)) × Int)) (left : Int) : Option Int :=
  rq (i64 (left - (a.length:Int))) <|
  cond (decide ((left - (a.length:Int)) < (0:Int))) (
    some (-1:Int)) (
    loop (laws_szConstraintS_l1 a) ((left - (a.length:Int)), (0:Int)))

/-- laws.toTerm -/
noncomputable def laws_toTerm (a : Int × Int) : Option ((Int × Int)) :=
  some a

/-- laws.toTermS -/
noncomputable def laws_toTermS_l1 (a : List (Int × Int)) : Int × (List (Int × Int)) → Option ((Int × (List (Int × Int))) ⊕ ((List (Int × Int)))) := fun (i, out) =>
  cond (decide (i < (a.length:Int))) (
    rq (0 ≤ i ∧ i < a.length) <|
    (laws_toTerm (a.getD i.toNat (0, 0))).bind fun r2_ =>
    rq (0 ≤ i ∧ i < out.length) <|
    rq (i64 (i + (1:Int))) <|
    some (.inl ((i + (1:Int)), (out.set i.toNat r2_)))) (
    some (.inr out))

noncomputable def laws_toTermS (a : List (Int × Int)) : Option ((List (Int × Int))) :=
  rq (0 ≤ (a.length:Int) ∧ (a.length:Int) ≤ bound ∧ (a.length:Int) = (a.length:Int)) <|
  loop (laws_toTermS_l1 a) ((0:Int), (List.replicate (a.length:Int).toNat (0, 0)))

/-- laws.toConstraint -/
noncomputable def laws_toConstraint (a : (List (Int × Int)) × Int) : Option (Int × (List (Int × Int))) :=
  (laws_toTermS a.1).bind fun r1_ =>
  some (a.2, r1_)

/-- laws.toConstraintS -/
noncomputable def laws_toConstraintS_l1 (a : List ((List (Int × Int)) × Int)) : Int × (List ((List (Int × Int)) × Int)) → Option ((Int × (List ((List (Int × Int)) × Int))) ⊕ ((List ((List (Int × Int)) × Int)))) := fun (i, out) =>
  cond (decide (i < (a.length:Int))) (
    rq (0 ≤ i ∧ i < a.length) <|
    (laws_toConstraint (a.getD i.toNat ([], 0))).bind fun r2_ =>
    rq (0 ≤ i ∧ i < out.length) <|
    rq (i64 (i + (1:Int))) <|
    some (.inl ((i + (1:Int)), (out.set i.toNat (r2_.2, r2_.1))))) (
    some (.inr out))

noncomputable def laws_toConstraintS (a : List ((List (Int × Int)) × Int)) : Option ((List ((List (Int × Int)) × Int))) :=
  rq (0 ≤ (a.length:Int) ∧ (a.length:Int) ≤ bound ∧ (a.length:Int) = (a.length:Int)) <|
  loop (laws_toConstraintS_l1 a) ((0:Int), (List.replicate (a.length:Int).toNat ([], 0)))

/-- spec.l1Lit -/
noncomputable def spec_l1Lit (n : Int) : Option Bool :=
  cond (n != (0:Int)) (
    cond (decide ((-12:Int) ≤ n)) (
      some (decide (n ≤ (12:Int)))) (
      some false)) (
    some false)

/-- spec.l1Abs -/
noncomputable def spec_l1Abs (n : Int) : Option Int :=
  cond (decide (n < (0:Int))) (
    rq (i64 (0 - n)) <|
    some (0 - n)) (
    some n)

/-- spec.ConstraintValid -/
noncomputable def spec_ConstraintValid_l1 (c_ : (List (Int × Int)) × Int) : Int → Option (Int ⊕ Bool) := fun i =>
  cond (decide (i < (c_.1.length:Int))) (
    rq (0 ≤ i ∧ i < c_.1.length) <|
    (spec_l1Lit (c_.1.getD i.toNat (0, 0)).2).bind fun r4_ =>
    cond (!r4_) (
      some (.inr false)) (
      cond (decide ((c_.1.getD i.toNat (0, 0)).1 < (1:Int))) (
        some (.inr false)) (
        cond (decide ((1000:Int) < (c_.1.getD i.toNat (0, 0)).1)) (
          some (.inr false)) (
          cond (decide ((0:Int) < i)) (
            rq (i64 (i - (1:Int))) <|
            rq (0 ≤ (i - (1:Int)) ∧ (i - (1:Int)) < c_.1.length) <|
            (spec_l1Abs (c_.1.getD (i - (1:Int)).toNat (0, 0)).2).bind fun r5_ =>
            (spec_l1Abs (c_.1.getD i.toNat (0, 0)).2).bind fun r6_ =>
            cond (decide (r6_ ≤ r5_)) (
              some (.inr false)) (
              rq (i64 (i + (1:Int))) <|
              some (.inl (i + (1:Int))))) (
            rq (i64 (i + (1:Int))) <|
            some (.inl (i + (1:Int)))))))) (
    cond (decide ((0:Int) ≤ c_.2)) (
      some (.inr (decide (c_.2 ≤ (20000:Int))))) (
      some (.inr false)))

noncomputable def spec_ConstraintValid (c_ : (List (Int × Int)) × Int) : Option Bool :=
  loop (spec_ConstraintValid_l1 c_) (0:Int)

/-- spec.ProblemValid -/
noncomputable def spec_ProblemValid_l1 (list_ : List ((List (Int × Int)) × Int)) : Int → Option (Int ⊕ Bool) := fun i =>
  cond (decide (i < (list_.length:Int))) (
    rq (0 ≤ i ∧ i < list_.length) <|
    (spec_ConstraintValid (list_.getD i.toNat ([], 0))).bind fun r1_ =>
    cond (!r1_) (
      some (.inr false)) (
      rq (i64 (i + (1:Int))) <|
      some (.inl (i + (1:Int))))) (
    some (.inr (decide ((list_.length:Int) ≤ (400:Int)))))

noncomputable def spec_ProblemValid (list_ : List ((List (Int × Int)) × Int)) : Option Bool :=
  loop (spec_ProblemValid_l1 list_) (0:Int)

/-- spec.l5Number -/
noncomputable def spec_l5Number_l1 (values : List Bool) : Int × Int → Option ((Int × Int) ⊕ Int) := fun (n, i) =>
  cond (decide (i < (values.length:Int))) (
    rq (i64 (n * (2:Int))) <|
    rq (0 ≤ i ∧ i < values.length) <|
    cond (values.getD i.toNat false) (
      rq (i64 ((n * (2:Int)) + (1:Int))) <|
      rq (i64 (i + (1:Int))) <|
      some (.inl (((n * (2:Int)) + (1:Int)), (i + (1:Int))))) (
      rq (i64 (i + (1:Int))) <|
      some (.inl ((n * (2:Int)), (i + (1:Int)))))) (
    some (.inr n))

noncomputable def spec_l5Number (values : List Bool) : Option Int :=
  loop (spec_l5Number_l1 values) ((0:Int), (0:Int))

/-- spec.l5Values -/
noncomputable def spec_l5Values_l1 : Int × Int × (List Bool) → Option ((Int × Int × (List Bool)) ⊕ (List Bool)) := fun (n1, i, out) =>
  cond (decide ((0:Int) ≤ i)) (
    rq (1 ≤ (2:Int) ∧ 0 ≤ n1) <|
    rq (0 ≤ i ∧ i < out.length) <|
    rq (1 ≤ (2:Int) ∧ 0 ≤ n1) <|
    rq (i64 (i - (1:Int))) <|
    some (.inl ((n1 / (2:Int)), (i - (1:Int)), (out.set i.toNat ((n1 % (2:Int)) == (1:Int)))))) (
    some (.inr out))

noncomputable def spec_l5Values (n : Int) : Option (List Bool) :=
  rq (0 ≤ (12:Int) ∧ (12:Int) ≤ bound ∧ (12:Int) = (12:Int)) <|
  loop (spec_l5Values_l1) (n, (11:Int), (List.replicate (12:Int).toNat false))

/-- spec.l1True -/
noncomputable def spec_l1True (values : List Bool) (lit : Int) : Option Bool :=
  cond (decide ((0:Int) < lit)) (
    rq (i64 (lit - (1:Int))) <|
    rq (0 ≤ (lit - (1:Int)) ∧ (lit - (1:Int)) < values.length) <|
    some (values.getD (lit - (1:Int)).toNat false)) (
    rq (i64 (0 - lit)) <|
    rq (i64 ((0 - lit) - (1:Int))) <|
    rq (0 ≤ ((0 - lit) - (1:Int)) ∧ ((0 - lit) - (1:Int)) < values.length) <|
    some (!(values.getD ((0 - lit) - (1:Int)).toNat false)))

/-- spec.l1Eval -/
noncomputable def spec_l1Eval_l1 (c_ : (List (Int × Int)) × Int) (values : List Bool) : Int × Int → Option ((Int × Int) ⊕ Bool) := fun (n, i) =>
  cond (decide (i < (c_.1.length:Int))) (
    rq (0 ≤ i ∧ i < c_.1.length) <|
    (spec_l1True values (c_.1.getD i.toNat (0, 0)).2).bind fun r1_ =>
    cond r1_ (
      rq (0 ≤ i ∧ i < c_.1.length) <|
      rq (i64 (n + (c_.1.getD i.toNat (0, 0)).1)) <|
      rq (i64 (i + (1:Int))) <|
      some (.inl ((n + (c_.1.getD i.toNat (0, 0)).1), (i + (1:Int))))) (
      rq (i64 (i + (1:Int))) <|
      some (.inl (n, (i + (1:Int)))))) (
    some (.inr (decide (c_.2 ≤ n))))

noncomputable def spec_l1Eval (c_ : (List (Int × Int)) × Int) (values : List Bool) : Option Bool :=
  loop (spec_l1Eval_l1 c_ values) ((0:Int), (0:Int))

/-- spec.l3All -/
noncomputable def spec_l3All_l1 (list_ : List ((List (Int × Int)) × Int)) (values : List Bool) : Int → Option (Int ⊕ Bool) := fun i =>
  cond (decide (i < (list_.length:Int))) (
    rq (0 ≤ i ∧ i < list_.length) <|
    (spec_l1Eval (list_.getD i.toNat ([], 0)) values).bind fun r1_ =>
    cond (!r1_) (
      some (.inr false)) (
      rq (i64 (i + (1:Int))) <|
      some (.inl (i + (1:Int))))) (
    some (.inr true))

noncomputable def spec_l3All (list_ : List ((List (Int × Int)) × Int)) (values : List Bool) : Option Bool :=
  loop (spec_l3All_l1 list_ values) (0:Int)

/-- spec.NextSolution -/
noncomputable def spec_NextSolution_l1 (list_ : List ((List (Int × Int)) × Int)) : Int → Option (Int ⊕ (Bool × (List Bool))) := fun k_ =>
  cond (decide (k_ < (4096:Int))) (
    (spec_l5Values k_).bind fun r3_ =>
    (spec_l3All list_ r3_).bind fun r4_ =>
    cond r4_ (
      (spec_l5Values k_).bind fun r5_ =>
      some (.inr (true, r5_))) (
      rq (i64 (k_ + (1:Int))) <|
      some (.inl (k_ + (1:Int))))) (
    some (.inr (false, ([] : List Bool))))

noncomputable def spec_NextSolution (list_ : List ((List (Int × Int)) × Int)) (values : List Bool) : Option (Bool × (List Bool)) :=
  (spec_ProblemValid list_).bind fun r1_ =>
  cond (!r1_) (
    some (false, ([] : List Bool))) (
    cond ((values.length:Int) != (12:Int)) (
      some (false, ([] : List Bool))) (
      (spec_l5Number values).bind fun r2_ =>
      loop (spec_NextSolution_l1 list_) r2_))

/-- spec.l11Open -/
noncomputable def spec_l11Open (list_ : List ((List (Int × Int)) × Int)) : Option Bool :=
  rq (0 ≤ (12:Int) ∧ (12:Int) ≤ bound ∧ (12:Int) = (12:Int)) <|
  (spec_NextSolution list_ (List.replicate (12:Int).toNat false)).bind fun r1_ =>
  some r1_.1

/-- spec.l11Count -/
noncomputable def spec_l11Count_l1 (n : Int) : Int × (List Int) → Option ((Int × (List Int)) ⊕ (List Int)) := fun (i, out) =>
  cond (decide (i < n)) (
    rq (out.length + [i].length ≤ bound) <|
    rq (i64 (i + (1:Int))) <|
    some (.inl ((i + (1:Int)), (out ++ [i])))) (
    some (.inr out))

noncomputable def spec_l11Count (n : Int) : Option (List Int) :=
  loop (spec_l11Count_l1 n) ((0:Int), ([] : List Int))

/-- spec.l11Without -/
noncomputable def spec_l11Without (list_ : List Int) (at_ : Int) : Option (List Int) :=
  rq (i64 (at_ + (1:Int))) <|
  rq (0 ≤ at_ ∧ at_ ≤ list_.length) <|
  rq (([] : List Int).length + (list_.take at_.toNat).length ≤ bound) <|
  rq (0 ≤ (at_ + (1:Int)) ∧ (at_ + (1:Int)) ≤ list_.length) <|
  rq ((([] : List Int) ++ (list_.take at_.toNat)).length + (list_.drop (at_ + (1:Int)).toNat).length ≤ bound) <|
  some ((([] : List Int) ++ (list_.take at_.toNat)) ++ (list_.drop (at_ + (1:Int)).toNat))

/-- spec.l1Copy -/
noncomputable def spec_l1Copy (c_ : (List (Int × Int)) × Int) : Option (Int × (List (Int × Int))) :=
  rq (([] : List (Int × Int)).length + c_.1.length ≤ bound) <|
  some (c_.2, (([] : List (Int × Int)) ++ c_.1))

/-- spec.l11Sub -/
noncomputable def spec_l11Sub_l1 (list_ : List ((List (Int × Int)) × Int)) (keep : List Int) : Int × (List ((List (Int × Int)) × Int)) → Option ((Int × (List ((List (Int × Int)) × Int))) ⊕ ((List ((List (Int × Int)) × Int)))) := fun (i, out) =>
  cond (decide (i < (keep.length:Int))) (
    rq (0 ≤ i ∧ i < keep.length) <|
    rq (0 ≤ (keep.getD i.toNat 0) ∧ (keep.getD i.toNat 0) < list_.length) <|
    (spec_l1Copy (list_.getD (keep.getD i.toNat 0).toNat ([], 0))).bind fun r2_ =>
    rq (out.length + [(r2_.2, r2_.1)].length ≤ bound) <|
    rq (i64 (i + (1:Int))) <|
    some (.inl ((i + (1:Int)), (out ++ [(r2_.2, r2_.1)])))) (
    some (.inr out))

noncomputable def spec_l11Sub (list_ : List ((List (Int × Int)) × Int)) (keep : List Int) : Option ((List ((List (Int × Int)) × Int))) :=
  loop (spec_l11Sub_l1 list_ keep) ((0:Int), ([] : List ((List (Int × Int)) × Int)))

/-- spec.MinimalCore -/
noncomputable def spec_MinimalCore_l2 (list_ : List ((List (Int × Int)) × Int)) (i : Int) : Int × (List Int) → Option ((Int × (List Int)) ⊕ ((Int × (List Int)) ⊕ (Bool × (List Int)))) := fun (k_1, keep2) =>
  cond (decide (k_1 < (keep2.length:Int))) (
    rq (0 ≤ k_1 ∧ k_1 < keep2.length) <|
    cond ((keep2.getD k_1.toNat 0) == i) (
      (spec_l11Without keep2 k_1).bind fun r16_ =>
      (spec_l11Sub list_ r16_).bind fun r17_ =>
      (spec_l11Open r17_).bind fun r18_ =>
      cond (!r18_) (
        (spec_l11Without keep2 k_1).bind fun r19_ =>
        rq (i64 (k_1 + (1:Int))) <|
        some (.inl ((k_1 + (1:Int)), r19_))) (
        rq (i64 (k_1 + (1:Int))) <|
        some (.inl ((k_1 + (1:Int)), keep2)))) (
      rq (i64 (k_1 + (1:Int))) <|
      some (.inl ((k_1 + (1:Int)), keep2)))) (
    rq (i64 (i - (1:Int))) <|
    some (.inr (.inl ((i - (1:Int)), keep2))))

noncomputable def spec_MinimalCore_l1 (list_ : List ((List (Int × Int)) × Int)) : Int × (List Int) → Option ((Int × (List Int)) ⊕ (Bool × (List Int))) := fun (i, keep1) =>
  cond (decide ((0:Int) ≤ i)) (
    loop (spec_MinimalCore_l2 list_ i) ((0:Int), keep1)) (
    some (.inr (true, keep1)))

noncomputable def spec_MinimalCore (list_ : List ((List (Int × Int)) × Int)) : Option (Bool × (List Int)) :=
  (spec_ProblemValid list_).bind fun r1_ =>
  cond (!r1_) (
    some (false, ([] : List Int))) (
    (spec_l11Open list_).bind fun r2_ =>
    cond r2_ (
      some (false, ([] : List Int))) (
      (spec_l11Count (list_.length:Int)).bind fun r3_ =>
      rq (i64 ((list_.length:Int) - (1:Int))) <|
      loop (spec_MinimalCore_l1 list_) (((list_.length:Int) - (1:Int)), r3_)))

/-- impl.within -/
noncomputable def impl_within (n : Int) (low : Int) (high : Int) : Option Bool :=
  cond (decide (low ≤ n)) (
    some (decide (n ≤ high))) (
    some false)

/-- impl.isLiteral -/
noncomputable def impl_isLiteral (l : Int) : Option Bool :=
  cond (l != (0:Int)) (
    (impl_within l (-12:Int) (12:Int)).bind fun r1_ =>
    some r1_) (
    some false)

/-- impl.variableOf -/
noncomputable def impl_variableOf (l : Int) : Option Int :=
  rq (i64 (0 - l)) <|
  some (max l (0 - l))

/-- impl.ConstraintValid -/
noncomputable def impl_ConstraintValid_l1 (c_ : (List (Int × Int)) × Int) : Int × Int → Option ((Int × Int) ⊕ Bool) := fun (before, i) =>
  cond (decide (i < (c_.1.length:Int))) (
    rq (0 ≤ i ∧ i < c_.1.length) <|
    (impl_isLiteral (c_.1.getD i.toNat (0, 0)).2).bind fun r1_ =>
    cond (!r1_) (
      some (.inr false)) (
      (impl_variableOf (c_.1.getD i.toNat (0, 0)).2).bind fun r2_ =>
      cond (decide (r2_ ≤ before)) (
        some (.inr false)) (
        (impl_within (c_.1.getD i.toNat (0, 0)).1 (1:Int) (1000:Int)).bind fun r3_ =>
        cond (!r3_) (
          some (.inr false)) (
          (impl_variableOf (c_.1.getD i.toNat (0, 0)).2).bind fun r4_ =>
          rq (i64 (i + (1:Int))) <|
          some (.inl (r4_, (i + (1:Int)))))))) (
    (impl_within c_.2 (0:Int) (20000:Int)).bind fun r5_ =>
    some (.inr r5_))

noncomputable def impl_ConstraintValid (c_ : (List (Int × Int)) × Int) : Option Bool :=
  loop (impl_ConstraintValid_l1 c_) ((0:Int), (0:Int))

/-- impl.allValid$1 -/
noncomputable def impl_allValid_1 (c_ : (List (Int × Int)) × Int) : Option Bool :=
  (impl_ConstraintValid c_).bind fun r1_ =>
  some (!r1_)

/-- slices.IndexFunc[[]impl.Constraint,impl.Constraint] -/
noncomputable def slices_IndexFunc_impl_Constraint__impl_allValid_1_l1 (s_ : List ((List (Int × Int)) × Int)) : Int → Option (Int ⊕ Int) := fun i =>
  cond (decide (i < (s_.length:Int))) (
    rq (0 ≤ i ∧ i < s_.length) <|
    (impl_allValid_1 (s_.getD i.toNat ([], 0))).bind fun r1_ =>
    cond r1_ (
      some (.inr i)) (
      rq (i64 (i + (1:Int))) <|
      some (.inl (i + (1:Int))))) (
    some (.inr (-1:Int)))

noncomputable def slices_IndexFunc_impl_Constraint__impl_allValid_1 (s_ : List ((List (Int × Int)) × Int)) : Option Int :=
  loop (slices_IndexFunc_impl_Constraint__impl_allValid_1_l1 s_) (0:Int)

/-- slices.ContainsFunc[[]impl.Constraint,impl.Constraint] -/
noncomputable def slices_ContainsFunc_impl_Constraint__impl_allValid_1 (s_ : List ((List (Int × Int)) × Int)) : Option Bool :=
  (slices_IndexFunc_impl_Constraint__impl_allValid_1 s_).bind fun r1_ =>
  some (decide ((0:Int) ≤ r1_))

/-- impl.allValid -/
noncomputable def impl_allValid (list_ : List ((List (Int × Int)) × Int)) : Option Bool :=
  (slices_ContainsFunc_impl_Constraint__impl_allValid_1 list_).bind fun r1_ =>
  some (!r1_)

/-- impl.ProblemValid -/
noncomputable def impl_ProblemValid (list_ : List ((List (Int × Int)) × Int)) : Option Bool :=
  cond (decide ((list_.length:Int) ≤ (400:Int))) (
    (impl_allValid list_).bind fun r1_ =>
    some r1_) (
    some false)

/-- impl.numbered -/
noncomputable def impl_numbered_l1 (n : Int) : Int × (List Bool) → Option ((Int × (List Bool)) ⊕ (List Bool)) := fun (i, out) =>
  cond (decide (i < ((List.replicate (12:Int).toNat false).length:Int))) (
    rq (i64 ((11:Int) - i)) <|
    rq ((0 ≤ ((11:Int) - i) ∧ ((11:Int) - i) ≤ 62) ∧ 0 ≤ n) <|
    rq (0 ≤ (n / 2 ^ ((11:Int) - i).toNat) ∧ 0 ≤ (1:Int)) <|
    rq (0 ≤ i ∧ i < out.length) <|
    rq (i64 (i + (1:Int))) <|
    some (.inl ((i + (1:Int)), (out.set i.toNat ((((n / 2 ^ ((11:Int) - i).toNat).toNat &&& (1:Int).toNat : Nat) : Int) == (1:Int)))))) (
    some (.inr out))

noncomputable def impl_numbered (n : Int) : Option (List Bool) :=
  rq (0 ≤ (12:Int) ∧ (12:Int) ≤ bound ∧ (12:Int) = (12:Int)) <|
  loop (impl_numbered_l1 n) ((0:Int), (List.replicate (12:Int).toNat false))

/-- impl.holds -/
noncomputable def impl_holds (l : Int) (values : List Bool) : Option Bool :=
  (impl_variableOf l).bind fun r1_ =>
  rq (i64 (r1_ - (1:Int))) <|
  rq (0 ≤ (r1_ - (1:Int)) ∧ (r1_ - (1:Int)) < values.length) <|
  some ((values.getD (r1_ - (1:Int)).toNat false) == (decide ((0:Int) < l)))

/-- (impl.Constraint).holds -/
noncomputable def impl_Constraint_holds_l1 (c_ : (List (Int × Int)) × Int) (values : List Bool) : Int × Int → Option ((Int × Int) ⊕ Bool) := fun (sum, i) =>
  cond (decide (i < (c_.1.length:Int))) (
    rq (0 ≤ i ∧ i < c_.1.length) <|
    (impl_holds (c_.1.getD i.toNat (0, 0)).2 values).bind fun r1_ =>
    cond r1_ (
      rq (i64 (sum + (c_.1.getD i.toNat (0, 0)).1)) <|
      rq (i64 (i + (1:Int))) <|
      some (.inl ((sum + (c_.1.getD i.toNat (0, 0)).1), (i + (1:Int))))) (
      rq (i64 (i + (1:Int))) <|
      some (.inl (sum, (i + (1:Int)))))) (
    some (.inr (decide (c_.2 ≤ sum))))

noncomputable def impl_Constraint_holds (c_ : (List (Int × Int)) × Int) (values : List Bool) : Option Bool :=
  loop (impl_Constraint_holds_l1 c_ values) ((0:Int), (0:Int))

/-- impl.satisfies$1 -/
noncomputable def impl_satisfies_1 (c_ : (List (Int × Int)) × Int) (o0 : List Bool) : Option Bool :=
  (impl_Constraint_holds c_ o0).bind fun r1_ =>
  some (!r1_)

/-- slices.IndexFunc[[]impl.Constraint,impl.Constraint] -/
noncomputable def slices_IndexFunc_impl_Constraint__impl_satisfies_1_l1 (s_ : List ((List (Int × Int)) × Int)) (o0 : List Bool) : Int → Option (Int ⊕ Int) := fun i =>
  cond (decide (i < (s_.length:Int))) (
    rq (0 ≤ i ∧ i < s_.length) <|
    (impl_satisfies_1 (s_.getD i.toNat ([], 0)) o0).bind fun r1_ =>
    cond r1_ (
      some (.inr i)) (
      rq (i64 (i + (1:Int))) <|
      some (.inl (i + (1:Int))))) (
    some (.inr (-1:Int)))

noncomputable def slices_IndexFunc_impl_Constraint__impl_satisfies_1 (s_ : List ((List (Int × Int)) × Int)) (o0 : List Bool) : Option Int :=
  loop (slices_IndexFunc_impl_Constraint__impl_satisfies_1_l1 s_ o0) (0:Int)

/-- slices.ContainsFunc[[]impl.Constraint,impl.Constraint] -/
noncomputable def slices_ContainsFunc_impl_Constraint__impl_satisfies_1 (s_ : List ((List (Int × Int)) × Int)) (o0 : List Bool) : Option Bool :=
  (slices_IndexFunc_impl_Constraint__impl_satisfies_1 s_ o0).bind fun r1_ =>
  some (decide ((0:Int) ≤ r1_))

/-- impl.satisfies -/
noncomputable def impl_satisfies (list_ : List ((List (Int × Int)) × Int)) (values : List Bool) : Option Bool :=
  (slices_ContainsFunc_impl_Constraint__impl_satisfies_1 list_ values).bind fun r1_ =>
  some (!r1_)

/-- impl.solvable -/
noncomputable def impl_solvable_l1 (list_ : List ((List (Int × Int)) × Int)) : Int → Option (Int ⊕ Bool) := fun i =>
  cond (decide (i < (4096:Int))) (
    (impl_numbered i).bind fun r1_ =>
    (impl_satisfies list_ r1_).bind fun r2_ =>
    cond r2_ (
      some (.inr true)) (
      rq (i64 (i + (1:Int))) <|
      some (.inl (i + (1:Int))))) (
    some (.inr false))

noncomputable def impl_solvable (list_ : List ((List (Int × Int)) × Int)) : Option Bool :=
  loop (impl_solvable_l1 list_) (0:Int)

/-- impl.indices -/
noncomputable def impl_indices_l1 (count : Int) : Int × (List Int) → Option ((Int × (List Int)) ⊕ (List Int)) := fun (i, out) =>
  cond (decide (i < count)) (
    rq (out.length + [i].length ≤ bound) <|
    rq (i64 (i + (1:Int))) <|
    some (.inl ((i + (1:Int)), (out ++ [i])))) (
    some (.inr out))

noncomputable def impl_indices (count : Int) : Option (List Int) :=
  loop (impl_indices_l1 count) ((0:Int), ([] : List Int))

/-- slices.Clone[[]int,int] -/
noncomputable def slices_Clone_int (s_ : List Int) : Option (List Int) :=
  nt (s_ = []) (
    some ([] : List Int)) (
    rq (([] : List Int).length + s_.length ≤ bound) <|
    some (([] : List Int) ++ s_))

/-- impl.without$1 -/
noncomputable def impl_without_1 (n : Int) (o0 : Int) : Option Bool :=
  some (n == o0)

/-- slices.IndexFunc[[]int,int] -/
noncomputable def slices_IndexFunc_int__impl_without_1_l1 (s_ : List Int) (o0 : Int) : Int → Option (Int ⊕ Int) := fun i =>
  cond (decide (i < (s_.length:Int))) (
    rq (0 ≤ i ∧ i < s_.length) <|
    (impl_without_1 (s_.getD i.toNat 0) o0).bind fun r1_ =>
    cond r1_ (
      some (.inr i)) (
      rq (i64 (i + (1:Int))) <|
      some (.inl (i + (1:Int))))) (
    some (.inr (-1:Int)))

noncomputable def slices_IndexFunc_int__impl_without_1 (s_ : List Int) (o0 : Int) : Option Int :=
  loop (slices_IndexFunc_int__impl_without_1_l1 s_ o0) (0:Int)

/-- slices.DeleteFunc[[]int,int] -/
noncomputable def slices_DeleteFunc_int__impl_without_1_j1 : Int × (List Int) → Option (List Int) := fun (i1, s_2) =>
  rq (0 ≤ i1 ∧ i1 ≤ s_2.length) <|
  rq (0 ≤ i1 ∧ i1 ≤ (s_2.take i1.toNat ++ List.replicate (s_2.length - i1.toNat) (0:Int)).length) <|
  some ((s_2.take i1.toNat ++ List.replicate (s_2.length - i1.toNat) (0:Int)).take i1.toNat)

noncomputable def slices_DeleteFunc_int__impl_without_1_l1 (o0 : Int) : Int × Int × (List Int) → Option ((Int × Int × (List Int)) ⊕ (List Int)) := fun (i, j, s_1) =>
  cond (decide (j < (s_1.length:Int))) (
    rq (0 ≤ j ∧ j < s_1.length) <|
    (impl_without_1 (s_1.getD j.toNat 0) o0).bind fun r3_ =>
    cond (!r3_) (
      rq (0 ≤ i ∧ i < s_1.length) <|
      rq (i64 (i + (1:Int))) <|
      rq (i64 (j + (1:Int))) <|
      some (.inl ((i + (1:Int)), (j + (1:Int)), (s_1.set i.toNat (s_1.getD j.toNat 0))))) (
      rq (i64 (j + (1:Int))) <|
      some (.inl (i, (j + (1:Int)), s_1)))) (
    up (slices_DeleteFunc_int__impl_without_1_j1 (i, s_1)))

noncomputable def slices_DeleteFunc_int__impl_without_1 (o0 : Int) (s_ : List Int) : Option (List Int) :=
  (slices_IndexFunc_int__impl_without_1 s_ o0).bind fun r1_ =>
  cond (r1_ == (-1:Int)) (
    some s_) (
    rq (i64 (r1_ + (1:Int))) <|
    loop (slices_DeleteFunc_int__impl_without_1_l1 o0) (r1_, (r1_ + (1:Int)), s_))

/-- impl.without -/
noncomputable def impl_without (list_ : List Int) (k_ : Int) : Option (List Int) :=
  (slices_Clone_int list_).bind fun r1_ =>
  (slices_DeleteFunc_int__impl_without_1 k_ r1_).bind fun r2_ =>
  some r2_

/-- impl.partOf -/
noncomputable def impl_partOf__s_l1 (list_ : List ((List (Int × Int)) × Int)) (keep : List Int) : Int × (List ((List (Int × Int)) × Int)) → Option ((Int × (List ((List (Int × Int)) × Int))) ⊕ ((List ((List (Int × Int)) × Int)))) := fun (i, out) =>
  cond (decide (i < (keep.length:Int))) (
    rq (0 ≤ i ∧ i < keep.length) <|
    rq (0 ≤ (keep.getD i.toNat 0) ∧ (keep.getD i.toNat 0) < list_.length) <|
    rq (out.length + [(list_.getD (keep.getD i.toNat 0).toNat ([], 0))].length ≤ bound) <|
    rq (i64 (i + (1:Int))) <|
    some (.inl ((i + (1:Int)), (out ++ [(list_.getD (keep.getD i.toNat 0).toNat ([], 0))])))) (
    some (.inr out))

noncomputable def impl_partOf__s (list_ : List ((List (Int × Int)) × Int)) (keep : List Int) : Option ((List ((List (Int × Int)) × Int))) :=
  loop (impl_partOf__s_l1 list_ keep) ((0:Int), ([] : List ((List (Int × Int)) × Int)))

/-- impl.MinimalCore -/
noncomputable def impl_MinimalCore_l1 (list_ : List ((List (Int × Int)) × Int)) : Int × (List Int) → Option ((Int × (List Int)) ⊕ (Bool × (List Int))) := fun (k_, out) =>
  cond (decide ((0:Int) ≤ k_)) (
    (impl_without out k_).bind fun r7_ =>
    (impl_partOf__s list_ r7_).bind fun r8_ =>
    (impl_solvable r8_).bind fun r9_ =>
    cond (!r9_) (
      rq (i64 (k_ - (1:Int))) <|
      some (.inl ((k_ - (1:Int)), r7_))) (
      rq (i64 (k_ - (1:Int))) <|
      some (.inl ((k_ - (1:Int)), out)))) (
    some (.inr (true, out)))

noncomputable def impl_MinimalCore (list_ : List ((List (Int × Int)) × Int)) : Option (Bool × (List Int)) :=
  (impl_ProblemValid list_).bind fun r1_ =>
  cond (!r1_) (
    some (false, ([] : List Int))) (
    (impl_solvable list_).bind fun r2_ =>
    cond r2_ (
      some (false, ([] : List Int))) (
      (impl_indices (list_.length:Int)).bind fun r3_ =>
      rq (i64 ((list_.length:Int) - (1:Int))) <|
      loop (impl_MinimalCore_l1 list_) (((list_.length:Int) - (1:Int)), r3_)))

/-- laws.eqIntS -/
noncomputable def laws_eqIntS_l1 (a : List Int) (b : List Int) : Int → Option (Int ⊕ Bool) := fun i =>
  cond (decide (i < (a.length:Int))) (
    rq (0 ≤ i ∧ i < a.length) <|
    rq (0 ≤ i ∧ i < b.length) <|
    cond ((a.getD i.toNat 0) != (b.getD i.toNat 0)) (
      some (.inr false)) (
      rq (i64 (i + (1:Int))) <|
      some (.inl (i + (1:Int))))) (
    some (.inr true))

noncomputable def laws_eqIntS (a : List Int) (b : List Int) : Option Bool :=
  cond ((a.length:Int) != (b.length:Int)) (
    some false) (
    loop (laws_eqIntS_l1 a b) (0:Int))

/-- laws.eqTerm -/
noncomputable def laws_eqTerm (a : Int × Int) (b : Int × Int) : Option Bool :=
  cond (a.1 != b.1) (
    some false) (
    cond (a.2 != b.2) (
      some false) (
      some true))

/-- laws.eqTermS -/
noncomputable def laws_eqTermS_l1 (a : List (Int × Int)) (b : List (Int × Int)) : Int → Option (Int ⊕ Bool) := fun i =>
  cond (decide (i < (a.length:Int))) (
    rq (0 ≤ i ∧ i < a.length) <|
    rq (0 ≤ i ∧ i < b.length) <|
    (laws_eqTerm (a.getD i.toNat (0, 0)) (b.getD i.toNat (0, 0))).bind fun r2_ =>
    cond (!r2_) (
      some (.inr false)) (
      rq (i64 (i + (1:Int))) <|
      some (.inl (i + (1:Int))))) (
    some (.inr true))

noncomputable def laws_eqTermS (a : List (Int × Int)) (b : List (Int × Int)) : Option Bool :=
  cond ((a.length:Int) != (b.length:Int)) (
    some false) (
    loop (laws_eqTermS_l1 a b) (0:Int))

/-- laws.eqConstraint -/
noncomputable def laws_eqConstraint (a : (List (Int × Int)) × Int) (b : (List (Int × Int)) × Int) : Option Bool :=
  (laws_eqTermS a.1 b.1).bind fun r1_ =>
  cond (!r1_) (
    some false) (
    cond (a.2 != b.2) (
      some false) (
      some true))

/-- laws.eqConstraintS -/
noncomputable def laws_eqConstraintS_l1 (a : List ((List (Int × Int)) × Int)) (b : List ((List (Int × Int)) × Int)) : Int → Option (Int ⊕ Bool) := fun i =>
  cond (decide (i < (a.length:Int))) (
    rq (0 ≤ i ∧ i < a.length) <|
    rq (0 ≤ i ∧ i < b.length) <|
    (laws_eqConstraint (a.getD i.toNat ([], 0)) (b.getD i.toNat ([], 0))).bind fun r2_ =>
    cond (!r2_) (
      some (.inr false)) (
      rq (i64 (i + (1:Int))) <|
      some (.inl (i + (1:Int))))) (
    some (.inr true))

noncomputable def laws_eqConstraintS (a : List ((List (Int × Int)) × Int)) (b : List ((List (Int × Int)) × Int)) : Option Bool :=
  cond ((a.length:Int) != (b.length:Int)) (
    some false) (
    loop (laws_eqConstraintS_l1 a b) (0:Int))

/-- laws.markTermS -/
noncomputable def laws_markTermS__d_l1 : Int × Int × (List (Int × Int)) → Option ((Int × Int × (List (Int × Int))) ⊕ (Int × (List (Int × Int)))) := fun (k_1, i, a1) =>
  cond (decide (i < (a1.length:Int))) (
    rq (0 ≤ i ∧ i < a1.length) <|
    rq (i64 (k_1 + (1:Int))) <|
    rq (0 ≤ i ∧ i < (a1.set i.toNat (k_1, (a1.getD i.toNat (0, 0)).2)).length) <|
    rq (i64 ((k_1 + (1:Int)) + (1:Int))) <|
    rq (i64 (i + (1:Int))) <|
    some (.inl (((k_1 + (1:Int)) + (1:Int)), (i + (1:Int)), ((a1.set i.toNat (k_1, (a1.getD i.toNat (0, 0)).2)).set i.toNat (((a1.set i.toNat (k_1, (a1.getD i.toNat (0, 0)).2)).getD i.toNat (0, 0)).1, (k_1 + (1:Int))))))) (
    some (.inr (k_1, a1)))

noncomputable def laws_markTermS__d (k_ : Int) (a : List (Int × Int)) : Option (Int × (List (Int × Int))) :=
  loop (laws_markTermS__d_l1) (k_, (0:Int), a)

/-- laws.markConstraintS -/
noncomputable def laws_markConstraintS_l1 : Int × Int × (List ((List (Int × Int)) × Int)) → Option ((Int × Int × (List ((List (Int × Int)) × Int))) ⊕ (Int × (List ((List (Int × Int)) × Int)))) := fun (k_1, i, a1) =>
  cond (decide (i < (a1.length:Int))) (
    rq (0 ≤ i ∧ i < a1.length) <|
    (laws_markTermS__d k_1 (a1.getD i.toNat ([], 0)).1).bind fun r2_ =>
    rq (0 ≤ i ∧ i < a1.length) <|
    rq (i64 (r2_.1 + (1:Int))) <|
    rq (i64 (i + (1:Int))) <|
    some (.inl ((r2_.1 + (1:Int)), (i + (1:Int)), ((a1.set i.toNat ((a1.getD i.toNat ([], 0)).1, r2_.1)).set i.toNat (r2_.2, ((a1.set i.toNat ((a1.getD i.toNat ([], 0)).1, r2_.1)).getD i.toNat ([], 0)).2))))) (
    some (.inr (k_1, a1)))

noncomputable def laws_markConstraintS (k_ : Int) (a : List ((List (Int × Int)) × Int)) : Option (Int × (List ((List (Int × Int)) × Int))) :=
  loop (laws_markConstraintS_l1) (k_, (0:Int), a)

/-- laws.markIntS -/
noncomputable def laws_markIntS_l1 : Int × Int × (List Int) → Option ((Int × Int × (List Int)) ⊕ (Int × (List Int))) := fun (k_1, i, a1) =>
  cond (decide (i < (a1.length:Int))) (
    rq (0 ≤ i ∧ i < a1.length) <|
    rq (i64 (k_1 + (1:Int))) <|
    rq (i64 (i + (1:Int))) <|
    some (.inl ((k_1 + (1:Int)), (i + (1:Int)), (a1.set i.toNat k_1)))) (
    some (.inr (k_1, a1)))

noncomputable def laws_markIntS (k_ : Int) (a : List Int) : Option (Int × (List Int)) :=
  loop (laws_markIntS_l1) (k_, (0:Int), a)

/-- laws.heldIntS -/
noncomputable def laws_heldIntS_l1 (a : List Int) : Int × Int → Option ((Int × Int) ⊕ Int) := fun (k_1, i) =>
  cond (decide (i < (a.length:Int))) (
    rq (0 ≤ i ∧ i < a.length) <|
    cond ((a.getD i.toNat 0) != k_1) (
      some (.inr (-1:Int))) (
      rq (i64 (k_1 + (1:Int))) <|
      rq (i64 (i + (1:Int))) <|
      some (.inl ((k_1 + (1:Int)), (i + (1:Int)))))) (
    some (.inr k_1))

noncomputable def laws_heldIntS (a : List Int) (k_ : Int) : Option Int :=
  loop (laws_heldIntS_l1 a) (k_, (0:Int))

/-- laws.FnExactMinimalCore -/
noncomputable def laws_FnExactMinimalCore (a0 : List ((List (Int × Int)) × Int)) : Option Bool :=
  (laws_szConstraintS a0 (1048576:Int)).bind fun r1_ =>
  cond (decide (r1_ < (0:Int))) (
    some true) (
    (laws_toConstraintS a0).bind fun r2_ =>
    (spec_MinimalCore r2_).bind fun r3_ =>
    (laws_toConstraintS a0).bind fun r4_ =>
    (impl_MinimalCore r4_).bind fun r5_ =>
    (laws_eqIntS r5_.2 r3_.2).bind fun r6_ =>
    cond (!r6_) (
      some false) (
      cond (r5_.1 != r3_.1) (
        some false) (
        (laws_toConstraintS a0).bind fun r7_ =>
        (laws_eqConstraintS r4_ r7_).bind fun r8_ =>
        cond (!r8_) (
          some false) (
          (laws_markConstraintS (1:Int) r4_).bind fun r9_ =>
          cond (decide (r9_.1 < (0:Int))) (
            some false) (
            (laws_eqIntS r5_.2 r3_.2).bind fun r10_ =>
            cond (!r10_) (
              some false) (
              cond (r5_.1 != r3_.1) (
                some false) (
                (laws_markIntS (1:Int) r5_.2).bind fun r11_ =>
                (laws_heldIntS r11_.2 (1:Int)).bind fun r12_ =>
                cond (decide (r12_ < (0:Int))) (
                  some false) (
                  cond (r12_ != r11_.1) (
                    some false) (
                    (laws_toConstraintS a0).bind fun r13_ =>
                    (impl_MinimalCore r13_).bind fun r14_ =>
                    (laws_eqIntS r14_.2 r3_.2).bind fun r15_ =>
                    cond (!r15_) (
                      some false) (
                      cond (r14_.1 != r3_.1) (
                        some false) (
                        (laws_heldIntS r11_.2 (1:Int)).bind fun r16_ =>
                        cond (decide (r16_ < (0:Int))) (
                          some false) (
                          cond (r16_ != r11_.1) (
                            some false) (
                            some true)))))))))))))

end Go.AE.Y
