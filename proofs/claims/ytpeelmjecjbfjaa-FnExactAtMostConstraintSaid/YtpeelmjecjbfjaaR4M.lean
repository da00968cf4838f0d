/-
  Models of the functions: what each computes, as a Lean function into Option. Definitions alone.
-/
import Derived.Test.YtpeelmjecjbfjaaAEx3
namespace Go.AE.Y
open Go Go.AE
set_option linter.unusedVariables false

/-- laws.szIntS -/
noncomputable def laws_szIntS (a : List Int) (left : Int) : Option Int :=
  rq (i64 (left - (a.length:Int))) <|
  cond (decide ((left - (a.length:Int)) < (0:Int))) (
    some (-1:Int)) (
    some (left - (a.length:Int)))

/-- laws.szIntSS -/
noncomputable def laws_szIntSS_l1 (a : List (List Int)) : Int × Int → Option ((Int × Int) ⊕ Int) := fun (left1, i) =>
  cond (decide (i < (a.length:Int))) (
    rq (0 ≤ i ∧ i < a.length) <|
    (laws_szIntS (a.getD i.toNat []) left1).bind fun r1_ =>
    cond (decide (r1_ < (0:Int))) (
      some (.inr (-1:Int))) (
      rq (i64 (i + (1:Int))) <|
      some (.inl (r1_, (i + (1:Int)))))) (
    some (.inr left1))

noncomputable def laws_szIntSS (a : List (List Int)) (left : Int) : Option Int :=
  rq (i64 (left - (a.length:Int))) <|
  cond (decide ((left - (a.length:Int)) < (0:Int))) (
    some (-1:Int)) (
    loop (laws_szIntSS_l1 a) ((left - (a.length:Int)), (0:Int)))

/-- laws.szRule -/
noncomputable def laws_szRule (a : Int × (List Int) × (List Int) × Int × (List (List Int))) (left : Int) : Option Int :=
  (laws_szIntS a.2.1 left).bind fun r1_ =>
  cond (decide (r1_ < (0:Int))) (
    some (-1:Int)) (
    (laws_szIntS a.2.2.1 r1_).bind fun r2_ =>
    cond (decide (r2_ < (0:Int))) (
      some (-1:Int)) (
      (laws_szIntSS a.2.2.2.2 r2_).bind fun r3_ =>
      cond (decide (r3_ < (0:Int))) (
        some (-1:Int)) (
        some r3_)))

/-- laws.szRuleS -/
noncomputable def laws_szRuleS_l1 (a : List (Int × (List Int) × (List Int) × Int × (List (List Int)))) : Int × Int → Option ((Int × Int) ⊕ Int) := fun (left1, i) =>
  cond (decide (i < (a.length:Int))) (
    rq (0 ≤ i ∧ i < a.length) <|
    (laws_szRule (a.getD i.toNat (0, ([], ([], (0, []))))) left1).bind fun r1_ =>
    cond (decide (r1_ < (0:Int))) (
      some (.inr (-1:Int))) (
      rq (i64 (i + (1:Int))) <|
      some (.inl (r1_, (i + (1:Int)))))) (
    some (.inr left1))

noncomputable def laws_szRuleS (a : List (Int × (List Int) × (List Int) × Int × (List (List Int)))) (left : Int) : Option Int :=
  rq (i64 (left - (a.length:Int))) <|
  cond (decide ((left - (a.length:Int)) < (0:Int))) (
    some (-1:Int)) (
    loop (laws_szRuleS_l1 a) ((left - (a.length:Int)), (0:Int)))

/-- laws.szModel -/
noncomputable def laws_szModel (a : (List Int) × (List (Int × (List Int) × (List Int) × Int × (List (List Int))))) (left : Int) : Option Int :=
  (laws_szIntS a.1 left).bind fun r1_ =>
  cond (decide (r1_ < (0:Int))) (
    some (-1:Int)) (
    (laws_szRuleS a.2 r1_).bind fun r2_ =>
    cond (decide (r2_ < (0:Int))) (
      some (-1:Int)) (
      some r2_))

/-- laws.toIntS -/
noncomputable def laws_toIntS_l1 (a : List Int) : Int × (List Int) → Option ((Int × (List Int)) ⊕ (List Int)) := fun (i, out) =>
  cond (decide (i < (a.length:Int))) (
    rq (0 ≤ i ∧ i < a.length) <|
    rq (0 ≤ i ∧ i < out.length) <|
    rq (i64 (i + (1:Int))) <|
    some (.inl ((i + (1:Int)), (out.set i.toNat (a.getD i.toNat 0))))) (
    some (.inr out))

noncomputable def laws_toIntS (a : List Int) : Option (List Int) :=
  rq (0 ≤ (a.length:Int) ∧ (a.length:Int) ≤ bound ∧ (a.length:Int) = (a.length:Int)) <|
  loop (laws_toIntS_l1 a) ((0:Int), (List.replicate (a.length:Int).toNat 0))

/-- laws.toIntSS -/
noncomputable def laws_toIntSS_l1 (a : List (List Int)) : Int × (List (List Int)) → Option ((Int × (List (List Int))) ⊕ (List (List Int))) := fun (i, out) =>
  cond (decide (i < (a.length:Int))) (
    rq (0 ≤ i ∧ i < a.length) <|
    (laws_toIntS (a.getD i.toNat [])).bind fun r2_ =>
    rq (0 ≤ i ∧ i < out.length) <|
    rq (i64 (i + (1:Int))) <|
    some (.inl ((i + (1:Int)), (out.set i.toNat r2_)))) (
    some (.inr out))

noncomputable def laws_toIntSS (a : List (List Int)) : Option (List (List Int)) :=
  rq (0 ≤ (a.length:Int) ∧ (a.length:Int) ≤ bound ∧ (a.length:Int) = (a.length:Int)) <|
  loop (laws_toIntSS_l1 a) ((0:Int), (List.replicate (a.length:Int).toNat []))

/-- laws.toRule -/
noncomputable def laws_toRule (a : Int × (List Int) × (List Int) × Int × (List (List Int))) : Option (Int × Int × (List Int) × (List Int) × (List (List Int))) :=
  (laws_toIntS a.2.1).bind fun r1_ =>
  (laws_toIntS a.2.2.1).bind fun r2_ =>
  (laws_toIntSS a.2.2.2.2).bind fun r3_ =>
  some (a.1, a.2.2.2.1, r1_, r2_, r3_)

/-- laws.toRuleS -/
noncomputable def laws_toRuleS_l1 (a : List (Int × (List Int) × (List Int) × Int × (List (List Int)))) : Int × (List (Int × (List Int) × (List Int) × Int × (List (List Int)))) → Option ((Int × (List (Int × (List Int) × (List Int) × Int × (List (List Int))))) ⊕ ((List (Int × (List Int) × (List Int) × Int × (List (List Int)))))) := fun (i, out) =>
  cond (decide (i < (a.length:Int))) (
    rq (0 ≤ i ∧ i < a.length) <|
    (laws_toRule (a.getD i.toNat (0, ([], ([], (0, [])))))).bind fun r2_ =>
    rq (0 ≤ i ∧ i < out.length) <|
    rq (i64 (i + (1:Int))) <|
    some (.inl ((i + (1:Int)), (out.set i.toNat (r2_.1, (r2_.2.2.1, (r2_.2.2.2.1, (r2_.2.1, r2_.2.2.2.2)))))))) (
    some (.inr out))

noncomputable def laws_toRuleS (a : List (Int × (List Int) × (List Int) × Int × (List (List Int)))) : Option ((List (Int × (List Int) × (List Int) × Int × (List (List Int))))) :=
  rq (0 ≤ (a.length:Int) ∧ (a.length:Int) ≤ bound ∧ (a.length:Int) = (a.length:Int)) <|
  loop (laws_toRuleS_l1 a) ((0:Int), (List.replicate (a.length:Int).toNat (0, ([], ([], (0, []))))))

/-- laws.toModel -/
noncomputable def laws_toModel (a : (List Int) × (List (Int × (List Int) × (List Int) × Int × (List (List Int))))) : Option ((List Int) × (List (Int × (List Int) × (List Int) × Int × (List (List Int))))) :=
  (laws_toIntS a.1).bind fun r1_ =>
  (laws_toRuleS a.2).bind fun r2_ =>
  some (r1_, r2_)

/-- spec.l6Vars -/
noncomputable def spec_l6Vars_l2 (list_ : List Int) (i : Int) : Int → Option (Int ⊕ (Int ⊕ Bool)) := fun k_ =>
  cond (decide (k_ < i)) (
    rq (0 ≤ k_ ∧ k_ < list_.length) <|
    rq (0 ≤ i ∧ i < list_.length) <|
    cond ((list_.getD k_.toNat 0) == (list_.getD i.toNat 0)) (
      some (.inr (.inr false))) (
      rq (i64 (k_ + (1:Int))) <|
      some (.inl (k_ + (1:Int))))) (
    rq (i64 (i + (1:Int))) <|
    some (.inr (.inl (i + (1:Int)))))

noncomputable def spec_l6Vars_l1 (m : (List Int) × (List (Int × (List Int) × (List Int) × Int × (List (List Int))))) (list_ : List Int) : Int → Option (Int ⊕ Bool) := fun i =>
  cond (decide (i < (list_.length:Int))) (
    rq (0 ≤ i ∧ i < list_.length) <|
    cond (decide ((list_.getD i.toNat 0) < (0:Int))) (
      some (.inr false)) (
      rq (0 ≤ i ∧ i < list_.length) <|
      cond (decide ((m.1.length:Int) ≤ (list_.getD i.toNat 0))) (
        some (.inr false)) (
        loop (spec_l6Vars_l2 list_ i) (0:Int)))) (
    some (.inr (decide ((1:Int) ≤ (list_.length:Int)))))

noncomputable def spec_l6Vars (m : (List Int) × (List (Int × (List Int) × (List Int) × Int × (List (List Int))))) (list_ : List Int) : Option Bool :=
  loop (spec_l6Vars_l1 m list_) (0:Int)

/-- spec.l6Linear -/
noncomputable def spec_l6Linear_l1 (r_ : Int × (List Int) × (List Int) × Int × (List (List Int))) : Int → Option (Int ⊕ Bool) := fun i =>
  cond (decide (i < (r_.2.2.1.length:Int))) (
    rq (0 ≤ i ∧ i < r_.2.2.1.length) <|
    cond (decide ((r_.2.2.1.getD i.toNat 0) < (-9:Int))) (
      some (.inr false)) (
      rq (0 ≤ i ∧ i < r_.2.2.1.length) <|
      cond (decide ((9:Int) < (r_.2.2.1.getD i.toNat 0))) (
        some (.inr false)) (
        rq (0 ≤ i ∧ i < r_.2.2.1.length) <|
        cond ((r_.2.2.1.getD i.toNat 0) == (0:Int)) (
          some (.inr false)) (
          rq (i64 (i + (1:Int))) <|
          some (.inl (i + (1:Int))))))) (
    cond ((r_.2.2.1.length:Int) == (r_.2.1.length:Int)) (
      cond (decide ((-1000:Int) ≤ r_.2.2.2.1)) (
        some (.inr (decide (r_.2.2.2.1 ≤ (1000:Int))))) (
        some (.inr false))) (
      some (.inr false)))

noncomputable def spec_l6Linear (r_ : Int × (List Int) × (List Int) × Int × (List (List Int))) : Option Bool :=
  loop (spec_l6Linear_l1 r_) (0:Int)

/-- spec.l6Table -/
noncomputable def spec_l6Table_l2 (r_ : Int × (List Int) × (List Int) × Int × (List (List Int))) (i : Int) : Int → Option (Int ⊕ (Int ⊕ Bool)) := fun k_ =>
  rq (0 ≤ i ∧ i < r_.2.2.2.2.length) <|
  cond (decide (k_ < ((r_.2.2.2.2.getD i.toNat []).length:Int))) (
    rq (0 ≤ i ∧ i < r_.2.2.2.2.length) <|
    rq (0 ≤ k_ ∧ k_ < (r_.2.2.2.2.getD i.toNat []).length) <|
    cond (decide (((r_.2.2.2.2.getD i.toNat []).getD k_.toNat 0) < (0:Int))) (
      some (.inr (.inr false))) (
      rq (0 ≤ i ∧ i < r_.2.2.2.2.length) <|
      rq (0 ≤ k_ ∧ k_ < (r_.2.2.2.2.getD i.toNat []).length) <|
      cond (decide ((3:Int) < ((r_.2.2.2.2.getD i.toNat []).getD k_.toNat 0))) (
        some (.inr (.inr false))) (
        rq (i64 (k_ + (1:Int))) <|
        some (.inl (k_ + (1:Int)))))) (
    rq (i64 (i + (1:Int))) <|
    some (.inr (.inl (i + (1:Int)))))

noncomputable def spec_l6Table_l1 (r_ : Int × (List Int) × (List Int) × Int × (List (List Int))) : Int → Option (Int ⊕ Bool) := fun i =>
  cond (decide (i < (r_.2.2.2.2.length:Int))) (
    rq (0 ≤ i ∧ i < r_.2.2.2.2.length) <|
    cond (((r_.2.2.2.2.getD i.toNat []).length:Int) != (r_.2.1.length:Int)) (
      some (.inr false)) (
      loop (spec_l6Table_l2 r_ i) (0:Int))) (
    some (.inr (decide ((r_.2.2.2.2.length:Int) ≤ (8:Int)))))

noncomputable def spec_l6Table (r_ : Int × (List Int) × (List Int) × Int × (List (List Int))) : Option Bool :=
  loop (spec_l6Table_l1 r_) (0:Int)

/-- spec.l6Rule -/
noncomputable def spec_l6Rule_j1 (r_ : Int × (List Int) × (List Int) × Int × (List (List Int))) : Unit → Option Bool := fun _ =>
  cond (r_.1 == (1:Int)) (
    (spec_l6Linear r_).bind fun r2_ =>
    some r2_) (
    cond (r_.1 == (2:Int)) (
      some true) (
      cond (r_.1 == (3:Int)) (
        (spec_l6Table r_).bind fun r3_ =>
        some r3_) (
        cond (r_.1 == (4:Int)) (
          some ((r_.2.1.length:Int) == (2:Int))) (
          some false))))

noncomputable def spec_l6Rule (m : (List Int) × (List (Int × (List Int) × (List Int) × Int × (List (List Int))))) (r_ : Int × (List Int) × (List Int) × Int × (List (List Int))) : Option Bool :=
  (spec_l6Vars m r_.2.1).bind fun r1_ =>
  cond (!r1_) (
    some false) (
    cond (r_.1 != (1:Int)) (
      cond ((r_.2.2.1.length:Int) != (0:Int)) (
        some false) (
        cond (r_.2.2.2.1 != (0:Int)) (
          some false) (
          cond (r_.1 != (3:Int)) (
            cond ((r_.2.2.2.2.length:Int) != (0:Int)) (
              some false) (
              spec_l6Rule_j1 r_ ())) (
            spec_l6Rule_j1 r_ ())))) (
      cond (r_.1 != (3:Int)) (
        cond ((r_.2.2.2.2.length:Int) != (0:Int)) (
          some false) (
          spec_l6Rule_j1 r_ ())) (
        spec_l6Rule_j1 r_ ())))

/-- spec.ModelValid -/
noncomputable def spec_ModelValid_l1 (a0 : (List Int) × (List (Int × (List Int) × (List Int) × Int × (List (List Int))))) : Int → Option (Int ⊕ Bool) := fun i3 =>
  cond (decide (i3 < (a0.2.length:Int))) (
    rq (0 ≤ i3 ∧ i3 < a0.2.length) <|
    (spec_l6Rule a0 (a0.2.getD i3.toNat (0, ([], ([], (0, [])))))).bind fun r2_ =>
    cond (!r2_) (
      some (.inr false)) (
      rq (i64 (i3 + (1:Int))) <|
      some (.inl (i3 + (1:Int))))) (
    some (.inr true))

noncomputable def spec_ModelValid_j1 (a0 : (List Int) × (List (Int × (List Int) × (List Int) × Int × (List (List Int))))) : Int → Option Bool := fun i2 =>
  cond (decide ((a0.1.length:Int) < (1:Int))) (
    some false) (
    cond (decide ((5:Int) < (a0.1.length:Int))) (
      some false) (
      cond (decide ((12:Int) < i2)) (
        some false) (
        cond (decide ((8:Int) < (a0.2.length:Int))) (
          some false) (
          loop (spec_ModelValid_l1 a0) (0:Int)))))

noncomputable def spec_ModelValid_l2 (a0 : (List Int) × (List (Int × (List Int) × (List Int) × Int × (List (List Int))))) : Int × Int → Option ((Int × Int) ⊕ Bool) := fun (i, i1) =>
  cond (decide (i1 < (a0.1.length:Int))) (
    cond (decide (i1 < (5:Int))) (
      rq (0 ≤ i1 ∧ i1 < a0.1.length) <|
      cond (decide ((a0.1.getD i1.toNat 0) < (0:Int))) (
        some (.inr false)) (
        rq (0 ≤ i1 ∧ i1 < a0.1.length) <|
        cond (decide ((3:Int) < (a0.1.getD i1.toNat 0))) (
          some (.inr false)) (
          rq (0 ≤ i1 ∧ i1 < a0.1.length) <|
          rq (i64 (i + (a0.1.getD i1.toNat 0))) <|
          rq (i64 ((i + (a0.1.getD i1.toNat 0)) + (1:Int))) <|
          rq (i64 (i1 + (1:Int))) <|
          some (.inl (((i + (a0.1.getD i1.toNat 0)) + (1:Int)), (i1 + (1:Int))))))) (
      up (spec_ModelValid_j1 a0 i))) (
    up (spec_ModelValid_j1 a0 i))

noncomputable def spec_ModelValid (a0 : (List Int) × (List (Int × (List Int) × (List Int) × Int × (List (List Int))))) : Option Bool :=
  loop (spec_ModelValid_l2 a0) ((0:Int), (0:Int))

/-- spec.l9Coefs -/
noncomputable def spec_l9Coefs_l1 (coefs : List Int) : Int → Option (Int ⊕ Bool) := fun i =>
  cond (decide (i < (coefs.length:Int))) (
    rq (0 ≤ i ∧ i < coefs.length) <|
    cond (decide ((coefs.getD i.toNat 0) < (-9:Int))) (
      some (.inr false)) (
      rq (0 ≤ i ∧ i < coefs.length) <|
      cond (decide ((9:Int) < (coefs.getD i.toNat 0))) (
        some (.inr false)) (
        rq (i64 (i + (1:Int))) <|
        some (.inl (i + (1:Int)))))) (
    some (.inr true))

noncomputable def spec_l9Coefs (m : (List Int) × (List (Int × (List Int) × (List Int) × Int × (List (List Int))))) (coefs : List Int) : Option Bool :=
  (spec_ModelValid m).bind fun r1_ =>
  cond (!r1_) (
    some false) (
    cond ((coefs.length:Int) != (m.1.length:Int)) (
      some false) (
      loop (spec_l9Coefs_l1 coefs) (0:Int)))

/-- spec.l7Var -/
noncomputable def spec_l7Var_l1 (m : (List Int) × (List (Int × (List Int) × (List Int) × Int × (List (List Int))))) (cell : Int) : Int × Int → Option ((Int × Int) ⊕ Int) := fun (n, i) =>
  cond (decide (i < cell)) (
    rq (0 ≤ i ∧ i < m.1.length) <|
    rq (i64 (n + (m.1.getD i.toNat 0))) <|
    rq (i64 ((n + (m.1.getD i.toNat 0)) + (1:Int))) <|
    rq (i64 (i + (1:Int))) <|
    some (.inl (((n + (m.1.getD i.toNat 0)) + (1:Int)), (i + (1:Int))))) (
    some (.inr n))

noncomputable def spec_l7Var (m : (List Int) × (List (Int × (List Int) × (List Int) × Int × (List (List Int))))) (cell : Int) (value : Int) : Option Int :=
  rq (i64 ((1:Int) + value)) <|
  loop (spec_l7Var_l1 m cell) (((1:Int) + value), (0:Int))

/-- spec.l1Lit -/
noncomputable def spec_l1Lit (n : Int) : Option Bool :=
  cond (n != (0:Int)) (
    cond (decide ((-12:Int) ≤ n)) (
      some (decide (n ≤ (12:Int)))) (
      some false)) (
    some false)

/-- spec.l1Abs -/
noncomputable def spec_l1Abs (n : Int) : Option Int :=
  cond (decide (n < (0:Int))) (
    rq (i64 (0 - n)) <|
    some (0 - n)) (
    some n)

/-- spec.ConstraintValid -/
noncomputable def spec_ConstraintValid_l1 (c_ : (List (Int × Int)) × Int) : Int → Option (Int ⊕ Bool) := fun i =>
  cond (decide (i < (c_.1.length:Int))) (
    rq (0 ≤ i ∧ i < c_.1.length) <|
    (spec_l1Lit (c_.1.getD i.toNat (0, 0)).2).bind fun r4_ =>
    cond (!r4_) (
      some (.inr false)) (
      cond (decide ((c_.1.getD i.toNat (0, 0)).1 < (1:Int))) (
        some (.inr false)) (
        cond (decide ((1000:Int) < (c_.1.getD i.toNat (0, 0)).1)) (
          some (.inr false)) (
          cond (decide ((0:Int) < i)) (
            rq (i64 (i - (1:Int))) <|
            rq (0 ≤ (i - (1:Int)) ∧ (i - (1:Int)) < c_.1.length) <|
            (spec_l1Abs (c_.1.getD (i - (1:Int)).toNat (0, 0)).2).bind fun r5_ =>
            (spec_l1Abs (c_.1.getD i.toNat (0, 0)).2).bind fun r6_ =>
            cond (decide (r6_ ≤ r5_)) (
              some (.inr false)) (
              rq (i64 (i + (1:Int))) <|
              some (.inl (i + (1:Int))))) (
            rq (i64 (i + (1:Int))) <|
            some (.inl (i + (1:Int)))))))) (
    cond (decide ((0:Int) ≤ c_.2)) (
      some (.inr (decide (c_.2 ≤ (20000:Int))))) (
      some (.inr false)))

noncomputable def spec_ConstraintValid (c_ : (List (Int × Int)) × Int) : Option Bool :=
  loop (spec_ConstraintValid_l1 c_) (0:Int)

/-- spec.l1Normal -/
noncomputable def spec_l1Normal_j2 (c_03 : List (Int × Int)) : Int → Option (Bool × Int × (List (Int × Int))) := fun bound_3 =>
  (spec_ConstraintValid (c_03, bound_3)).bind fun r1_ =>
  cond (!r1_) (
    some (false, (0:Int), ([] : List (Int × Int)))) (
    some (true, bound_3, c_03))

noncomputable def spec_l1Normal_j1 : Int × (List (Int × Int)) → Option (Bool × Int × (List (Int × Int))) := fun (bound_2, c_03) =>
  cond (decide (bound_2 < (0:Int))) (
    spec_l1Normal_j2 c_03 (0:Int)) (
    spec_l1Normal_j2 c_03 bound_2)

noncomputable def spec_l1Normal_j4 (net : List Int) (bound_1 : Int) (v : Int) (c_02 : List (Int × Int)) : Unit → Option ((Int × Int × (List (Int × Int))) ⊕ (Bool × Int × (List (Int × Int)))) := fun _ =>
  rq (0 ≤ v ∧ v < net.length) <|
  rq (i64 (bound_1 - (net.getD v.toNat 0))) <|
  rq (i64 (v + (1:Int))) <|
  some (.inl ((bound_1 - (net.getD v.toNat 0)), (v + (1:Int)), (c_02 ++ [((0 - (net.getD v.toNat 0)), (0 - v))])))

noncomputable def spec_l1Normal_j3 (net : List Int) (bound_1 : Int) (v : Int) : (List (Int × Int)) → Option ((Int × Int × (List (Int × Int))) ⊕ (Bool × Int × (List (Int × Int)))) := fun c_02 =>
  rq (0 ≤ v ∧ v < net.length) <|
  cond (decide ((net.getD v.toNat 0) < (0:Int))) (
    rq (0 ≤ v ∧ v < net.length) <|
    rq (i64 (0 - (net.getD v.toNat 0))) <|
    rq (i64 (0 - v)) <|
    rq (c_02.length + [((0 - (net.getD v.toNat 0)), (0 - v))].length ≤ bound) <|
    spec_l1Normal_j4 net bound_1 v c_02 ()) (
    rq (i64 (v + (1:Int))) <|
    some (.inl (bound_1, (v + (1:Int)), c_02)))

noncomputable def spec_l1Normal_l1 (net : List Int) : Int × Int × (List (Int × Int)) → Option ((Int × Int × (List (Int × Int))) ⊕ (Bool × Int × (List (Int × Int)))) := fun (bound_1, v, c_01) =>
  cond (decide (v ≤ (12:Int))) (
    rq (0 ≤ v ∧ v < net.length) <|
    cond (decide ((0:Int) < (net.getD v.toNat 0))) (
      rq (0 ≤ v ∧ v < net.length) <|
      rq (c_01.length + [((net.getD v.toNat 0), v)].length ≤ bound) <|
      spec_l1Normal_j3 net bound_1 v (c_01 ++ [((net.getD v.toNat 0), v)])) (
      spec_l1Normal_j3 net bound_1 v c_01)) (
    up (spec_l1Normal_j1 (bound_1, c_01)))

noncomputable def spec_l1Normal (net : List Int) (bound_ : Int) : Option (Bool × Int × (List (Int × Int))) :=
  loop (spec_l1Normal_l1 net) (bound_, (1:Int), ([] : List (Int × Int)))

/-- spec.AtMostConstraint -/
noncomputable def spec_AtMostConstraint_j1 (most : Int) : (List Int) → Option (Bool × Int × (List (Int × Int))) := fun net3 =>
  rq (i64 (0 - most)) <|
  (spec_l1Normal net3 (0 - most)).bind fun r7_ =>
  some (r7_.1, r7_.2.1, r7_.2.2)

noncomputable def spec_AtMostConstraint_l2 (m : (List Int) × (List (Int × (List Int) × (List Int) × Int × (List (List Int))))) (coefs : List Int) (i : Int) : Int × (List Int) → Option ((Int × (List Int)) ⊕ ((Int × (List Int)) ⊕ (Bool × Int × (List (Int × Int))))) := fun (k_1, net2) =>
  rq (0 ≤ i ∧ i < m.1.length) <|
  cond (decide (k_1 ≤ (m.1.getD i.toNat 0))) (
    rq (0 ≤ i ∧ i < coefs.length) <|
    rq (i64 (0 - (coefs.getD i.toNat 0))) <|
    rq (i64 ((0 - (coefs.getD i.toNat 0)) * k_1)) <|
    (spec_l7Var m i k_1).bind fun r6_ =>
    rq (0 ≤ r6_ ∧ r6_ < net2.length) <|
    rq (i64 (k_1 + (1:Int))) <|
    some (.inl ((k_1 + (1:Int)), (net2.set r6_.toNat ((0 - (coefs.getD i.toNat 0)) * k_1))))) (
    rq (i64 (i + (1:Int))) <|
    some (.inr (.inl ((i + (1:Int)), net2))))

noncomputable def spec_AtMostConstraint_l1 (m : (List Int) × (List (Int × (List Int) × (List Int) × Int × (List (List Int))))) (coefs : List Int) (most : Int) : Int × (List Int) → Option ((Int × (List Int)) ⊕ (Bool × Int × (List (Int × Int)))) := fun (i, net1) =>
  cond (decide (i < (coefs.length:Int))) (
    loop (spec_AtMostConstraint_l2 m coefs i) ((0:Int), net1)) (
    up (spec_AtMostConstraint_j1 most net1))

noncomputable def spec_AtMostConstraint (m : (List Int) × (List (Int × (List Int) × (List Int) × Int × (List (List Int))))) (coefs : List Int) (most : Int) : Option (Bool × Int × (List (Int × Int))) :=
  (spec_l9Coefs m coefs).bind fun r1_ =>
  cond (!r1_) (
    some (false, (0:Int), ([] : List (Int × Int)))) (
    cond (decide (most < (-1000:Int))) (
      some (false, (0:Int), ([] : List (Int × Int)))) (
      cond (decide ((1000:Int) < most)) (
        some (false, (0:Int), ([] : List (Int × Int)))) (
        rq (0 ≤ (13:Int) ∧ (13:Int) ≤ bound ∧ (13:Int) = (13:Int)) <|
        loop (spec_AtMostConstraint_l1 m coefs most) ((0:Int), (List.replicate (13:Int).toNat 0)))))

/-- impl.within -/
noncomputable def impl_within (n : Int) (low : Int) (high : Int) : Option Bool :=
  cond (decide (low ≤ n)) (
    some (decide (n ≤ high))) (
    some false)

/-- slices.Index[[]int,int] -/
noncomputable def slices_Index_int_l1 (s_ : List Int) (v : Int) : Int → Option (Int ⊕ Int) := fun i =>
  cond (decide (i < (s_.length:Int))) (
    rq (0 ≤ i ∧ i < s_.length) <|
    cond (v == (s_.getD i.toNat 0)) (
      some (.inr i)) (
      rq (i64 (i + (1:Int))) <|
      some (.inl (i + (1:Int))))) (
    some (.inr (-1:Int)))

noncomputable def slices_Index_int (s_ : List Int) (v : Int) : Option Int :=
  loop (slices_Index_int_l1 s_ v) (0:Int)

/-- slices.Contains[[]int,int] -/
noncomputable def slices_Contains_int (s_ : List Int) (v : Int) : Option Bool :=
  (slices_Index_int s_ v).bind fun r1_ =>
  some (decide ((0:Int) ≤ r1_))

/-- impl.ruleValid$1 -/
noncomputable def impl_ruleValid_1 (n : Int) : Option Bool :=
  cond (n == (0:Int)) (
    some true) (
    (impl_within n (-9:Int) (9:Int)).bind fun r1_ =>
    some (!r1_))

/-- slices.IndexFunc[[]int,int] -/
noncomputable def slices_IndexFunc_int__impl_ruleValid_1_l1 (s_ : List Int) : Int → Option (Int ⊕ Int) := fun i =>
  cond (decide (i < (s_.length:Int))) (
    rq (0 ≤ i ∧ i < s_.length) <|
    (impl_ruleValid_1 (s_.getD i.toNat 0)).bind fun r1_ =>
    cond r1_ (
      some (.inr i)) (
      rq (i64 (i + (1:Int))) <|
      some (.inl (i + (1:Int))))) (
    some (.inr (-1:Int)))

noncomputable def slices_IndexFunc_int__impl_ruleValid_1 (s_ : List Int) : Option Int :=
  loop (slices_IndexFunc_int__impl_ruleValid_1_l1 s_) (0:Int)

/-- slices.ContainsFunc[[]int,int] -/
noncomputable def slices_ContainsFunc_int__impl_ruleValid_1 (s_ : List Int) : Option Bool :=
  (slices_IndexFunc_int__impl_ruleValid_1 s_).bind fun r1_ =>
  some (decide ((0:Int) ≤ r1_))

/-- impl.ruleValid$2$1 -/
noncomputable def impl_ruleValid_2_1 (n : Int) : Option Bool :=
  (impl_within n (0:Int) (3:Int)).bind fun r1_ =>
  some (!r1_)

/-- slices.IndexFunc[[]int,int] -/
noncomputable def slices_IndexFunc_int__impl_ruleValid_2_1_l1 (s_ : List Int) : Int → Option (Int ⊕ Int) := fun i =>
  cond (decide (i < (s_.length:Int))) (
    rq (0 ≤ i ∧ i < s_.length) <|
    (impl_ruleValid_2_1 (s_.getD i.toNat 0)).bind fun r1_ =>
    cond r1_ (
      some (.inr i)) (
      rq (i64 (i + (1:Int))) <|
      some (.inl (i + (1:Int))))) (
    some (.inr (-1:Int)))

noncomputable def slices_IndexFunc_int__impl_ruleValid_2_1 (s_ : List Int) : Option Int :=
  loop (slices_IndexFunc_int__impl_ruleValid_2_1_l1 s_) (0:Int)

/-- slices.ContainsFunc[[]int,int] -/
noncomputable def slices_ContainsFunc_int__impl_ruleValid_2_1 (s_ : List Int) : Option Bool :=
  (slices_IndexFunc_int__impl_ruleValid_2_1 s_).bind fun r1_ =>
  some (decide ((0:Int) ≤ r1_))

/-- impl.ruleValid$2 -/
noncomputable def impl_ruleValid_2 (row : List Int) (o0 : Int × (List Int) × (List Int) × Int × (List (List Int))) : Option Bool :=
  cond ((row.length:Int) != (o0.2.1.length:Int)) (
    some true) (
    (slices_ContainsFunc_int__impl_ruleValid_2_1 row).bind fun r1_ =>
    some r1_)

/-- slices.IndexFunc[[][]int,[]int] -/
noncomputable def slices_IndexFunc_s_int__impl_ruleValid_2_l1 (s_ : List (List Int)) (o0 : Int × (List Int) × (List Int) × Int × (List (List Int))) : Int → Option (Int ⊕ Int) := fun i =>
  cond (decide (i < (s_.length:Int))) (
    rq (0 ≤ i ∧ i < s_.length) <|
    (impl_ruleValid_2 (s_.getD i.toNat []) o0).bind fun r1_ =>
    cond r1_ (
      some (.inr i)) (
      rq (i64 (i + (1:Int))) <|
      some (.inl (i + (1:Int))))) (
    some (.inr (-1:Int)))

noncomputable def slices_IndexFunc_s_int__impl_ruleValid_2 (s_ : List (List Int)) (o0 : Int × (List Int) × (List Int) × Int × (List (List Int))) : Option Int :=
  loop (slices_IndexFunc_s_int__impl_ruleValid_2_l1 s_ o0) (0:Int)

/-- slices.ContainsFunc[[][]int,[]int] -/
noncomputable def slices_ContainsFunc_s_int__impl_ruleValid_2 (s_ : List (List Int)) (o0 : Int × (List Int) × (List Int) × Int × (List (List Int))) : Option Bool :=
  (slices_IndexFunc_s_int__impl_ruleValid_2 s_ o0).bind fun r1_ =>
  some (decide ((0:Int) ≤ r1_))

/-- impl.ruleValid -/
noncomputable def impl_ruleValid_j1 (a0 : Int × (List Int) × (List Int) × Int × (List (List Int))) : Unit → Option (Int ⊕ Bool) := fun _ =>
  cond (a0.1 == (1:Int)) (
    cond ((a0.2.2.1.length:Int) == (a0.2.1.length:Int)) (
      (impl_within a0.2.2.2.1 (-1000:Int) (1000:Int)).bind fun r3_ =>
      cond r3_ (
        (slices_ContainsFunc_int__impl_ruleValid_1 a0.2.2.1).bind fun r4_ =>
        some (.inr (!r4_))) (
        some (.inr false))) (
      some (.inr false))) (
    cond (a0.1 == (3:Int)) (
      cond (decide ((a0.2.2.2.2.length:Int) ≤ (8:Int))) (
        (slices_ContainsFunc_s_int__impl_ruleValid_2 a0.2.2.2.2 a0).bind fun r5_ =>
        some (.inr (!r5_))) (
        some (.inr false))) (
      cond (a0.1 == (4:Int)) (
        some (.inr ((a0.2.1.length:Int) == (2:Int)))) (
        some (.inr (a0.1 == (2:Int))))))

noncomputable def impl_ruleValid_l1 (a0 : Int × (List Int) × (List Int) × Int × (List (List Int))) (a1 : Int) : Int → Option (Int ⊕ Bool) := fun i =>
  cond (decide (i < (a0.2.1.length:Int))) (
    rq (0 ≤ i ∧ i < a0.2.1.length) <|
    rq (i64 (a1 - (1:Int))) <|
    (impl_within (a0.2.1.getD i.toNat 0) (0:Int) (a1 - (1:Int))).bind fun r1_ =>
    cond (!r1_) (
      some (.inr false)) (
      rq (0 ≤ i ∧ i ≤ a0.2.1.length) <|
      (slices_Contains_int (a0.2.1.take i.toNat) (a0.2.1.getD i.toNat 0)).bind fun r2_ =>
      cond r2_ (
        some (.inr false)) (
        rq (i64 (i + (1:Int))) <|
        some (.inl (i + (1:Int)))))) (
    cond ((a0.2.1.length:Int) == (0:Int)) (
      some (.inr false)) (
      cond (a0.1 != (1:Int)) (
        cond (decide ((0:Int) < (a0.2.2.1.length:Int))) (
          some (.inr false)) (
          cond (a0.2.2.2.1 != (0:Int)) (
            some (.inr false)) (
            cond (a0.1 != (3:Int)) (
              cond (decide ((0:Int) < (a0.2.2.2.2.length:Int))) (
                some (.inr false)) (
                impl_ruleValid_j1 a0 ())) (
              impl_ruleValid_j1 a0 ())))) (
        cond (a0.1 != (3:Int)) (
          cond (decide ((0:Int) < (a0.2.2.2.2.length:Int))) (
            some (.inr false)) (
            impl_ruleValid_j1 a0 ())) (
          impl_ruleValid_j1 a0 ()))))

noncomputable def impl_ruleValid (a0 : Int × (List Int) × (List Int) × Int × (List (List Int))) (a1 : Int) : Option Bool :=
  loop (impl_ruleValid_l1 a0 a1) (0:Int)

/-- impl.ModelValid$1 -/
noncomputable def impl_ModelValid_1 (r_ : Int × (List Int) × (List Int) × Int × (List (List Int))) (o0 : (List Int) × (List (Int × (List Int) × (List Int) × Int × (List (List Int))))) : Option Bool :=
  (impl_ruleValid r_ (o0.1.length:Int)).bind fun r1_ =>
  some (!r1_)

/-- slices.IndexFunc[[]impl.Rule,impl.Rule] -/
noncomputable def slices_IndexFunc_impl_Rule__impl_ModelValid_1_l1 (s_ : List (Int × (List Int) × (List Int) × Int × (List (List Int)))) (o0 : (List Int) × (List (Int × (List Int) × (List Int) × Int × (List (List Int))))) : Int → Option (Int ⊕ Int) := fun i =>
  cond (decide (i < (s_.length:Int))) (
    rq (0 ≤ i ∧ i < s_.length) <|
    (impl_ModelValid_1 (s_.getD i.toNat (0, ([], ([], (0, []))))) o0).bind fun r1_ =>
    cond r1_ (
      some (.inr i)) (
      rq (i64 (i + (1:Int))) <|
      some (.inl (i + (1:Int))))) (
    some (.inr (-1:Int)))

noncomputable def slices_IndexFunc_impl_Rule__impl_ModelValid_1 (s_ : List (Int × (List Int) × (List Int) × Int × (List (List Int)))) (o0 : (List Int) × (List (Int × (List Int) × (List Int) × Int × (List (List Int))))) : Option Int :=
  loop (slices_IndexFunc_impl_Rule__impl_ModelValid_1_l1 s_ o0) (0:Int)

/-- slices.ContainsFunc[[]impl.Rule,impl.Rule] -/
noncomputable def slices_ContainsFunc_impl_Rule__impl_ModelValid_1 (s_ : List (Int × (List Int) × (List Int) × Int × (List (List Int)))) (o0 : (List Int) × (List (Int × (List Int) × (List Int) × Int × (List (List Int))))) : Option Bool :=
  (slices_IndexFunc_impl_Rule__impl_ModelValid_1 s_ o0).bind fun r1_ =>
  some (decide ((0:Int) ≤ r1_))

/-- impl.ModelValid -/
noncomputable def impl_ModelValid_l1 (m : (List Int) × (List (Int × (List Int) × (List Int) × Int × (List (List Int))))) : Int × Int → Option ((Int × Int) ⊕ Bool) := fun (count, i) =>
  cond (decide (i < (m.1.length:Int))) (
    rq (0 ≤ i ∧ i < m.1.length) <|
    (impl_within (m.1.getD i.toNat 0) (0:Int) (3:Int)).bind fun r2_ =>
    cond (!r2_) (
      some (.inr false)) (
      rq (i64 ((m.1.getD i.toNat 0) + (1:Int))) <|
      rq (i64 (count + ((m.1.getD i.toNat 0) + (1:Int)))) <|
      rq (i64 (i + (1:Int))) <|
      some (.inl ((count + ((m.1.getD i.toNat 0) + (1:Int))), (i + (1:Int)))))) (
    cond (decide (count ≤ (12:Int))) (
      (slices_ContainsFunc_impl_Rule__impl_ModelValid_1 m.2 m).bind fun r3_ =>
      some (.inr (!r3_))) (
      some (.inr false)))

noncomputable def impl_ModelValid (m : (List Int) × (List (Int × (List Int) × (List Int) × Int × (List (List Int))))) : Option Bool :=
  (impl_within (m.1.length:Int) (1:Int) (5:Int)).bind fun r1_ =>
  cond (!r1_) (
    some false) (
    cond (decide ((8:Int) < (m.2.length:Int))) (
      some false) (
      loop (impl_ModelValid_l1 m) ((0:Int), (0:Int))))

/-- impl.isObjective$1 -/
noncomputable def impl_isObjective_1 (n : Int) : Option Bool :=
  (impl_within n (-9:Int) (9:Int)).bind fun r1_ =>
  some (!r1_)

/-- slices.IndexFunc[[]int,int] -/
noncomputable def slices_IndexFunc_int__impl_isObjective_1_l1 (s_ : List Int) : Int → Option (Int ⊕ Int) := fun i =>
  cond (decide (i < (s_.length:Int))) (
    rq (0 ≤ i ∧ i < s_.length) <|
    (impl_isObjective_1 (s_.getD i.toNat 0)).bind fun r1_ =>
    cond r1_ (
      some (.inr i)) (
      rq (i64 (i + (1:Int))) <|
      some (.inl (i + (1:Int))))) (
    some (.inr (-1:Int)))

noncomputable def slices_IndexFunc_int__impl_isObjective_1 (s_ : List Int) : Option Int :=
  loop (slices_IndexFunc_int__impl_isObjective_1_l1 s_) (0:Int)

/-- slices.ContainsFunc[[]int,int] -/
noncomputable def slices_ContainsFunc_int__impl_isObjective_1 (s_ : List Int) : Option Bool :=
  (slices_IndexFunc_int__impl_isObjective_1 s_).bind fun r1_ =>
  some (decide ((0:Int) ≤ r1_))

/-- impl.isObjective -/
noncomputable def impl_isObjective (m : (List Int) × (List (Int × (List Int) × (List Int) × Int × (List (List Int))))) (coefs : List Int) : Option Bool :=
  cond ((coefs.length:Int) == (m.1.length:Int)) (
    (slices_ContainsFunc_int__impl_isObjective_1 coefs).bind fun r1_ =>
    some (!r1_)) (
    some false)

/-- (impl.Model).boolVar -/
noncomputable def impl_Model_boolVar_l1 (m : (List Int) × (List (Int × (List Int) × (List Int) × Int × (List (List Int))))) (cell : Int) : Int × Int → Option ((Int × Int) ⊕ Int) := fun (v, i) =>
  cond (decide (i < ((m.1.take cell.toNat).length:Int))) (
    rq (0 ≤ i ∧ i < (m.1.take cell.toNat).length) <|
    rq (i64 (((m.1.take cell.toNat).getD i.toNat 0) + (1:Int))) <|
    rq (i64 (v + (((m.1.take cell.toNat).getD i.toNat 0) + (1:Int)))) <|
    rq (i64 (i + (1:Int))) <|
    some (.inl ((v + (((m.1.take cell.toNat).getD i.toNat 0) + (1:Int))), (i + (1:Int))))) (
    some (.inr v))

noncomputable def impl_Model_boolVar (m : (List Int) × (List (Int × (List Int) × (List Int) × Int × (List (List Int))))) (cell : Int) (value : Int) : Option Int :=
  rq (i64 ((1:Int) + value)) <|
  rq (0 ≤ cell ∧ cell ≤ m.1.length) <|
  loop (impl_Model_boolVar_l1 m cell) (((1:Int) + value), (0:Int))

/-- impl.isLiteral -/
noncomputable def impl_isLiteral (l : Int) : Option Bool :=
  cond (l != (0:Int)) (
    (impl_within l (-12:Int) (12:Int)).bind fun r1_ =>
    some r1_) (
    some false)

/-- impl.variableOf -/
noncomputable def impl_variableOf (l : Int) : Option Int :=
  rq (i64 (0 - l)) <|
  some (max l (0 - l))

/-- impl.ConstraintValid -/
noncomputable def impl_ConstraintValid_l1 (c_ : (List (Int × Int)) × Int) : Int × Int → Option ((Int × Int) ⊕ Bool) := fun (before, i) =>
  cond (decide (i < (c_.1.length:Int))) (
    rq (0 ≤ i ∧ i < c_.1.length) <|
    (impl_isLiteral (c_.1.getD i.toNat (0, 0)).2).bind fun r1_ =>
    cond (!r1_) (
      some (.inr false)) (
      (impl_variableOf (c_.1.getD i.toNat (0, 0)).2).bind fun r2_ =>
      cond (decide (r2_ ≤ before)) (
        some (.inr false)) (
        (impl_within (c_.1.getD i.toNat (0, 0)).1 (1:Int) (1000:Int)).bind fun r3_ =>
        cond (!r3_) (
          some (.inr false)) (
          (impl_variableOf (c_.1.getD i.toNat (0, 0)).2).bind fun r4_ =>
          rq (i64 (i + (1:Int))) <|
          some (.inl (r4_, (i + (1:Int)))))))) (
    (impl_within c_.2 (0:Int) (20000:Int)).bind fun r5_ =>
    some (.inr r5_))

noncomputable def impl_ConstraintValid (c_ : (List (Int × Int)) × Int) : Option Bool :=
  loop (impl_ConstraintValid_l1 c_) ((0:Int), (0:Int))

/-- (impl.Constraint).valid -/
noncomputable def impl_Constraint_valid__s (c_1 : Int) (o0 : List (Int × Int)) : Option (Bool × Int × (List (Int × Int))) :=
  (impl_ConstraintValid (o0, c_1)).bind fun r1_ =>
  cond (!r1_) (
    some (false, (0:Int), ([] : List (Int × Int)))) (
    some (true, c_1, o0))

/-- impl.normal -/
noncomputable def impl_normal_j2 : Int × (List (Int × Int)) → Option (Bool × Int × (List (Int × Int))) := fun (i9, i_03) =>
  (impl_Constraint_valid__s (max (0:Int) i9) i_03).bind fun r1_ =>
  some (r1_.1, r1_.2.1, r1_.2.2)

noncomputable def impl_normal_j3 (i5 : Int) (i6 : Int) : Int × (List (Int × Int)) → Option ((Int × Int × (List (Int × Int))) ⊕ (Bool × Int × (List (Int × Int)))) := fun (i8, i_02) =>
  rq (i64 (i5 - i8)) <|
  rq (i64 (i6 + (1:Int))) <|
  some (.inl ((i5 - i8), (i6 + (1:Int)), i_02))

noncomputable def impl_normal_l1 (i4 : List Int) : Int × Int × (List (Int × Int)) → Option ((Int × Int × (List (Int × Int))) ⊕ (Bool × Int × (List (Int × Int)))) := fun (i5, i6, i_01) =>
  cond (decide (i6 < (13:Int))) (
    rq ((0 ≤ i6 ∧ i6 < 13) ∧ 13 ≤ [(i4.getD 0 0), (i4.getD 1 0), (i4.getD 2 0), (i4.getD 3 0), (i4.getD 4 0), (i4.getD 5 0), (i4.getD 6 0), (i4.getD 7 0), (i4.getD 8 0), (i4.getD 9 0), (i4.getD 10 0), (i4.getD 11 0), (i4.getD 12 0)].length) <|
    cond (decide ((0:Int) < ([(i4.getD 0 0), (i4.getD 1 0), (i4.getD 2 0), (i4.getD 3 0), (i4.getD 4 0), (i4.getD 5 0), (i4.getD 6 0), (i4.getD 7 0), (i4.getD 8 0), (i4.getD 9 0), (i4.getD 10 0), (i4.getD 11 0), (i4.getD 12 0)].getD i6.toNat 0))) (
      rq (i_01.length + [(([(i4.getD 0 0), (i4.getD 1 0), (i4.getD 2 0), (i4.getD 3 0), (i4.getD 4 0), (i4.getD 5 0), (i4.getD 6 0), (i4.getD 7 0), (i4.getD 8 0), (i4.getD 9 0), (i4.getD 10 0), (i4.getD 11 0), (i4.getD 12 0)].getD i6.toNat 0), i6)].length ≤ bound) <|
      rq (i64 (i6 + (1:Int))) <|
      some (.inl (i5, (i6 + (1:Int)), (i_01 ++ [(([(i4.getD 0 0), (i4.getD 1 0), (i4.getD 2 0), (i4.getD 3 0), (i4.getD 4 0), (i4.getD 5 0), (i4.getD 6 0), (i4.getD 7 0), (i4.getD 8 0), (i4.getD 9 0), (i4.getD 10 0), (i4.getD 11 0), (i4.getD 12 0)].getD i6.toNat 0), i6)])))) (
      cond (decide (([(i4.getD 0 0), (i4.getD 1 0), (i4.getD 2 0), (i4.getD 3 0), (i4.getD 4 0), (i4.getD 5 0), (i4.getD 6 0), (i4.getD 7 0), (i4.getD 8 0), (i4.getD 9 0), (i4.getD 10 0), (i4.getD 11 0), (i4.getD 12 0)].getD i6.toNat 0) < (0:Int))) (
        rq (i64 (0 - ([(i4.getD 0 0), (i4.getD 1 0), (i4.getD 2 0), (i4.getD 3 0), (i4.getD 4 0), (i4.getD 5 0), (i4.getD 6 0), (i4.getD 7 0), (i4.getD 8 0), (i4.getD 9 0), (i4.getD 10 0), (i4.getD 11 0), (i4.getD 12 0)].getD i6.toNat 0))) <|
        rq (i64 (0 - i6)) <|
        rq (i_01.length + [((0 - ([(i4.getD 0 0), (i4.getD 1 0), (i4.getD 2 0), (i4.getD 3 0), (i4.getD 4 0), (i4.getD 5 0), (i4.getD 6 0), (i4.getD 7 0), (i4.getD 8 0), (i4.getD 9 0), (i4.getD 10 0), (i4.getD 11 0), (i4.getD 12 0)].getD i6.toNat 0)), (0 - i6))].length ≤ bound) <|
        impl_normal_j3 i5 i6 (([(i4.getD 0 0), (i4.getD 1 0), (i4.getD 2 0), (i4.getD 3 0), (i4.getD 4 0), (i4.getD 5 0), (i4.getD 6 0), (i4.getD 7 0), (i4.getD 8 0), (i4.getD 9 0), (i4.getD 10 0), (i4.getD 11 0), (i4.getD 12 0)].getD i6.toNat 0), (i_01 ++ [((0 - ([(i4.getD 0 0), (i4.getD 1 0), (i4.getD 2 0), (i4.getD 3 0), (i4.getD 4 0), (i4.getD 5 0), (i4.getD 6 0), (i4.getD 7 0), (i4.getD 8 0), (i4.getD 9 0), (i4.getD 10 0), (i4.getD 11 0), (i4.getD 12 0)].getD i6.toNat 0)), (0 - i6))]))) (
        rq (i64 (i6 + (1:Int))) <|
        some (.inl (i5, (i6 + (1:Int)), i_01))))) (
    up (impl_normal_j2 (i5, i_01)))

noncomputable def impl_normal_j1 : Int × (List Int) → Option (Bool × Int × (List (Int × Int))) := fun (i3, i4) =>
  rq ((0:Int) = 0 ∧ 0 = 0 ∧ 13 ≤ i4.length) <|
  loop (impl_normal_l1 i4) (i3, (0:Int), ([] : List (Int × Int)))

noncomputable def impl_normal_l2 (a0 : List (Int × Int)) : Int × Int × (List Int) → Option ((Int × Int × (List Int)) ⊕ (Bool × Int × (List (Int × Int)))) := fun (i, i1, i2) =>
  cond (decide (i1 < (a0.length:Int))) (
    rq (0 ≤ i1 ∧ i1 < a0.length) <|
    cond (decide ((a0.getD i1.toNat (0, 0)).2 < (0:Int))) (
      rq (i64 (i - (a0.getD i1.toNat (0, 0)).1)) <|
      rq (i64 (0 - (a0.getD i1.toNat (0, 0)).2)) <|
      rq ((0:Int) = 0 ∧ (0 ≤ (0 - (a0.getD i1.toNat (0, 0)).2) ∧ (0 - (a0.getD i1.toNat (0, 0)).2) < 13) ∧ 13 ≤ i2.length) <|
      rq (i64 ((i2.getD (0 - (a0.getD i1.toNat (0, 0)).2).toNat 0) - (a0.getD i1.toNat (0, 0)).1)) <|
      rq ((0:Int) = 0 ∧ (0 ≤ (0 - (a0.getD i1.toNat (0, 0)).2) ∧ (0 - (a0.getD i1.toNat (0, 0)).2) < 13) ∧ 13 ≤ i2.length) <|
      rq (i64 (i1 + (1:Int))) <|
      some (.inl ((i - (a0.getD i1.toNat (0, 0)).1), (i1 + (1:Int)), (i2.set (0 - (a0.getD i1.toNat (0, 0)).2).toNat ((i2.getD (0 - (a0.getD i1.toNat (0, 0)).2).toNat 0) - (a0.getD i1.toNat (0, 0)).1))))) (
      rq ((0:Int) = 0 ∧ (0 ≤ (a0.getD i1.toNat (0, 0)).2 ∧ (a0.getD i1.toNat (0, 0)).2 < 13) ∧ 13 ≤ i2.length) <|
      rq (i64 ((i2.getD (a0.getD i1.toNat (0, 0)).2.toNat 0) + (a0.getD i1.toNat (0, 0)).1)) <|
      rq ((0:Int) = 0 ∧ (0 ≤ (a0.getD i1.toNat (0, 0)).2 ∧ (a0.getD i1.toNat (0, 0)).2 < 13) ∧ 13 ≤ i2.length) <|
      rq (i64 (i1 + (1:Int))) <|
      some (.inl (i, (i1 + (1:Int)), (i2.set (a0.getD i1.toNat (0, 0)).2.toNat ((i2.getD (a0.getD i1.toNat (0, 0)).2.toNat 0) + (a0.getD i1.toNat (0, 0)).1)))))) (
    up (impl_normal_j1 (i, i2)))

noncomputable def impl_normal (a0 : List (Int × Int)) (a1 : Int) : Option (Bool × Int × (List (Int × Int))) :=
  loop (impl_normal_l2 a0) (a1, (0:Int), (List.replicate 13 0))

/-- impl.AtMostConstraint -/
noncomputable def impl_AtMostConstraint_j1 (most : Int) : (List (Int × Int)) → Option (Bool × Int × (List (Int × Int))) := fun terms3 =>
  rq (i64 (0 - most)) <|
  (impl_normal terms3 (0 - most)).bind fun r9_ =>
  some (r9_.1, r9_.2.1, r9_.2.2)

noncomputable def impl_AtMostConstraint_l2 (m : (List Int) × (List (Int × (List Int) × (List Int) × Int × (List (List Int))))) (coefs : List Int) (i : Int) : Int × (List (Int × Int)) → Option ((Int × (List (Int × Int))) ⊕ ((Int × (List (Int × Int))) ⊕ (Bool × Int × (List (Int × Int))))) := fun (i2, terms2) =>
  cond (decide (i2 < ((m.1.getD i.toNat 0) + (1:Int)))) (
    rq (0 ≤ i ∧ i < coefs.length) <|
    rq (i64 (0 - (coefs.getD i.toNat 0))) <|
    rq (i64 ((0 - (coefs.getD i.toNat 0)) * i2)) <|
    (impl_Model_boolVar m i i2).bind fun r8_ =>
    rq (terms2.length + [(((0 - (coefs.getD i.toNat 0)) * i2), r8_)].length ≤ bound) <|
    rq (i64 (i2 + (1:Int))) <|
    some (.inl ((i2 + (1:Int)), (terms2 ++ [(((0 - (coefs.getD i.toNat 0)) * i2), r8_)])))) (
    rq (i64 (i + (1:Int))) <|
    some (.inr (.inl ((i + (1:Int)), terms2))))

noncomputable def impl_AtMostConstraint_l1 (m : (List Int) × (List (Int × (List Int) × (List Int) × Int × (List (List Int))))) (coefs : List Int) (most : Int) : Int × (List (Int × Int)) → Option ((Int × (List (Int × Int))) ⊕ (Bool × Int × (List (Int × Int)))) := fun (i, terms1) =>
  cond (decide (i < (m.1.length:Int))) (
    rq (0 ≤ i ∧ i < m.1.length) <|
    rq (i64 ((m.1.getD i.toNat 0) + (1:Int))) <|
    loop (impl_AtMostConstraint_l2 m coefs i) ((0:Int), terms1)) (
    up (impl_AtMostConstraint_j1 most terms1))

noncomputable def impl_AtMostConstraint (m : (List Int) × (List (Int × (List Int) × (List Int) × Int × (List (List Int))))) (coefs : List Int) (most : Int) : Option (Bool × Int × (List (Int × Int))) :=
  (impl_ModelValid m).bind fun r1_ =>
  cond (!r1_) (
    some (false, (0:Int), ([] : List (Int × Int)))) (
    (impl_isObjective m coefs).bind fun r2_ =>
    cond (!r2_) (
      some (false, (0:Int), ([] : List (Int × Int)))) (
      (impl_within most (-1000:Int) (1000:Int)).bind fun r3_ =>
      cond (!r3_) (
        some (false, (0:Int), ([] : List (Int × Int)))) (
        loop (impl_AtMostConstraint_l1 m coefs most) ((0:Int), ([] : List (Int × Int))))))

/-- laws.eqTerm -/
noncomputable def laws_eqTerm (a : Int × Int) (b : Int × Int) : Option Bool :=
  cond (a.1 != b.1) (
    some false) (
    cond (a.2 != b.2) (
      some false) (
      some true))

/-- laws.eqTermS -/
noncomputable def laws_eqTermS_l1 (a : List (Int × Int)) (b : List (Int × Int)) : Int → Option (Int ⊕ Bool) := fun i =>
  cond (decide (i < (a.length:Int))) (
    rq (0 ≤ i ∧ i < a.length) <|
    rq (0 ≤ i ∧ i < b.length) <|
    (laws_eqTerm (a.getD i.toNat (0, 0)) (b.getD i.toNat (0, 0))).bind fun r2_ =>
    cond (!r2_) (
      some (.inr false)) (
      rq (i64 (i + (1:Int))) <|
      some (.inl (i + (1:Int))))) (
    some (.inr true))

noncomputable def laws_eqTermS (a : List (Int × Int)) (b : List (Int × Int)) : Option Bool :=
  cond ((a.length:Int) != (b.length:Int)) (
    some false) (
    loop (laws_eqTermS_l1 a b) (0:Int))

/-- laws.eqConstraint -/
noncomputable def laws_eqConstraint (a : (List (Int × Int)) × Int) (b : (List (Int × Int)) × Int) : Option Bool :=
  (laws_eqTermS a.1 b.1).bind fun r1_ =>
  cond (!r1_) (
    some false) (
    cond (a.2 != b.2) (
      some false) (
      some true))

/-- laws.eqIntS -/
noncomputable def laws_eqIntS_l1 (a : List Int) (b : List Int) : Int → Option (Int ⊕ Bool) := fun i =>
  cond (decide (i < (a.length:Int))) (
    rq (0 ≤ i ∧ i < a.length) <|
    rq (0 ≤ i ∧ i < b.length) <|
    cond ((a.getD i.toNat 0) != (b.getD i.toNat 0)) (
      some (.inr false)) (
      rq (i64 (i + (1:Int))) <|
      some (.inl (i + (1:Int))))) (
    some (.inr true))

noncomputable def laws_eqIntS (a : List Int) (b : List Int) : Option Bool :=
  cond ((a.length:Int) != (b.length:Int)) (
    some false) (
    loop (laws_eqIntS_l1 a b) (0:Int))

/-- laws.eqIntSS -/
noncomputable def laws_eqIntSS_l1 (a : List (List Int)) (b : List (List Int)) : Int → Option (Int ⊕ Bool) := fun i =>
  cond (decide (i < (a.length:Int))) (
    rq (0 ≤ i ∧ i < a.length) <|
    rq (0 ≤ i ∧ i < b.length) <|
    (laws_eqIntS (a.getD i.toNat []) (b.getD i.toNat [])).bind fun r2_ =>
    cond (!r2_) (
      some (.inr false)) (
      rq (i64 (i + (1:Int))) <|
      some (.inl (i + (1:Int))))) (
    some (.inr true))

noncomputable def laws_eqIntSS (a : List (List Int)) (b : List (List Int)) : Option Bool :=
  cond ((a.length:Int) != (b.length:Int)) (
    some false) (
    loop (laws_eqIntSS_l1 a b) (0:Int))

/-- laws.eqRule -/
noncomputable def laws_eqRule (a : Int × (List Int) × (List Int) × Int × (List (List Int))) (b : Int × (List Int) × (List Int) × Int × (List (List Int))) : Option Bool :=
  cond (a.1 != b.1) (
    some false) (
    (laws_eqIntS a.2.1 b.2.1).bind fun r1_ =>
    cond (!r1_) (
      some false) (
      (laws_eqIntS a.2.2.1 b.2.2.1).bind fun r2_ =>
      cond (!r2_) (
        some false) (
        cond (a.2.2.2.1 != b.2.2.2.1) (
          some false) (
          (laws_eqIntSS a.2.2.2.2 b.2.2.2.2).bind fun r3_ =>
          cond (!r3_) (
            some false) (
            some true)))))

/-- laws.eqRuleS -/
noncomputable def laws_eqRuleS_l1 (a : List (Int × (List Int) × (List Int) × Int × (List (List Int)))) (b : List (Int × (List Int) × (List Int) × Int × (List (List Int)))) : Int → Option (Int ⊕ Bool) := fun i =>
  cond (decide (i < (a.length:Int))) (
    rq (0 ≤ i ∧ i < a.length) <|
    rq (0 ≤ i ∧ i < b.length) <|
    (laws_eqRule (a.getD i.toNat (0, ([], ([], (0, []))))) (b.getD i.toNat (0, ([], ([], (0, [])))))).bind fun r2_ =>
    cond (!r2_) (
      some (.inr false)) (
      rq (i64 (i + (1:Int))) <|
      some (.inl (i + (1:Int))))) (
    some (.inr true))

noncomputable def laws_eqRuleS (a : List (Int × (List Int) × (List Int) × Int × (List (List Int)))) (b : List (Int × (List Int) × (List Int) × Int × (List (List Int)))) : Option Bool :=
  cond ((a.length:Int) != (b.length:Int)) (
    some false) (
    loop (laws_eqRuleS_l1 a b) (0:Int))

/-- laws.eqModel -/
noncomputable def laws_eqModel (a : (List Int) × (List (Int × (List Int) × (List Int) × Int × (List (List Int))))) (b : (List Int) × (List (Int × (List Int) × (List Int) × Int × (List (List Int))))) : Option Bool :=
  (laws_eqIntS a.1 b.1).bind fun r1_ =>
  cond (!r1_) (
    some false) (
    (laws_eqRuleS a.2 b.2).bind fun r2_ =>
    cond (!r2_) (
      some false) (
      some true))

/-- laws.markIntS -/
noncomputable def laws_markIntS_l1 : Int × Int × (List Int) → Option ((Int × Int × (List Int)) ⊕ (Int × (List Int))) := fun (k_1, i, a1) =>
  cond (decide (i < (a1.length:Int))) (
    rq (0 ≤ i ∧ i < a1.length) <|
    rq (i64 (k_1 + (1:Int))) <|
    rq (i64 (i + (1:Int))) <|
    some (.inl ((k_1 + (1:Int)), (i + (1:Int)), (a1.set i.toNat k_1)))) (
    some (.inr (k_1, a1)))

noncomputable def laws_markIntS (k_ : Int) (a : List Int) : Option (Int × (List Int)) :=
  loop (laws_markIntS_l1) (k_, (0:Int), a)

/-- laws.markIntS -/
noncomputable def laws_markIntS__d_l1 : Int × Int × (List Int) → Option ((Int × Int × (List Int)) ⊕ (Int × (List Int))) := fun (k_1, i, a1) =>
  cond (decide (i < (a1.length:Int))) (
    rq (0 ≤ i ∧ i < a1.length) <|
    rq (i64 (k_1 + (1:Int))) <|
    rq (i64 (i + (1:Int))) <|
    some (.inl ((k_1 + (1:Int)), (i + (1:Int)), (a1.set i.toNat k_1)))) (
    some (.inr (k_1, a1)))

noncomputable def laws_markIntS__d (k_ : Int) (a : List Int) : Option (Int × (List Int)) :=
  loop (laws_markIntS__d_l1) (k_, (0:Int), a)

/-- laws.markIntSS -/
noncomputable def laws_markIntSS_l1 : Int × Int × (List (List Int)) → Option ((Int × Int × (List (List Int))) ⊕ (Int × (List (List Int)))) := fun (k_1, i, a1) =>
  cond (decide (i < (a1.length:Int))) (
    rq (0 ≤ i ∧ i < a1.length) <|
    (laws_markIntS__d k_1 (a1.getD i.toNat [])).bind fun r2_ =>
    rq (i64 (i + (1:Int))) <|
    some (.inl (r2_.1, (i + (1:Int)), (a1.set i.toNat r2_.2)))) (
    some (.inr (k_1, a1)))

noncomputable def laws_markIntSS (k_ : Int) (a : List (List Int)) : Option (Int × (List (List Int))) :=
  loop (laws_markIntSS_l1) (k_, (0:Int), a)

/-- laws.markRuleS -/
noncomputable def laws_markRuleS_j2 (i : Int) (k_3 : Int) : (List (Int × (List Int) × (List Int) × Int × (List (List Int)))) → Option ((Int × Int × (List (Int × (List Int) × (List Int) × Int × (List (List Int))))) ⊕ (Int × (List (Int × (List Int) × (List Int) × Int × (List (List Int)))))) := fun a5 =>
  rq (i64 (k_3 + (1:Int))) <|
  rq (0 ≤ i ∧ i < a5.length) <|
  (laws_markIntSS (k_3 + (1:Int)) (a5.getD i.toNat (0, ([], ([], (0, []))))).2.2.2.2).bind fun r6_ =>
  rq (i64 (i + (1:Int))) <|
  some (.inl (r6_.1, (i + (1:Int)), (a5.set i.toNat ((a5.getD i.toNat (0, ([], ([], (0, []))))).1, ((a5.getD i.toNat (0, ([], ([], (0, []))))).2.1, ((a5.getD i.toNat (0, ([], ([], (0, []))))).2.2.1, ((a5.getD i.toNat (0, ([], ([], (0, []))))).2.2.2.1, r6_.2)))))))

noncomputable def laws_markRuleS_j1 (i : Int) : Int × (List (Int × (List Int) × (List Int) × Int × (List (List Int)))) → Option ((Int × Int × (List (Int × (List Int) × (List Int) × Int × (List (List Int))))) ⊕ (Int × (List (Int × (List Int) × (List Int) × Int × (List (List Int)))))) := fun (k_3, a4) =>
  rq (0 ≤ i ∧ i < a4.length) <|
  laws_markRuleS_j2 i k_3 (a4.set i.toNat ((a4.getD i.toNat (0, ([], ([], (0, []))))).1, ((a4.getD i.toNat (0, ([], ([], (0, []))))).2.1, ((a4.getD i.toNat (0, ([], ([], (0, []))))).2.2.1, (k_3, (a4.getD i.toNat (0, ([], ([], (0, []))))).2.2.2.2)))))

noncomputable def laws_markRuleS_l1 : Int × Int × (List (Int × (List Int) × (List Int) × Int × (List (List Int)))) → Option ((Int × Int × (List (Int × (List Int) × (List Int) × Int × (List (List Int))))) ⊕ (Int × (List (Int × (List Int) × (List Int) × Int × (List (List Int)))))) := fun (k_1, i, a3) =>
  cond (decide (i < (a3.length:Int))) (
    rq (0 ≤ i ∧ i < a3.length) <|
    rq (i64 (k_1 + (1:Int))) <|
    rq (0 ≤ i ∧ i < (a3.set i.toNat (k_1, (a3.getD i.toNat (0, ([], ([], (0, []))))).2)).length) <|
    (laws_markIntS__d (k_1 + (1:Int)) ((a3.set i.toNat (k_1, (a3.getD i.toNat (0, ([], ([], (0, []))))).2)).getD i.toNat (0, ([], ([], (0, []))))).2.1).bind fun r4_ =>
    rq (0 ≤ i ∧ i < (a3.set i.toNat (k_1, (a3.getD i.toNat (0, ([], ([], (0, []))))).2)).length) <|
    (laws_markIntS__d r4_.1 (((a3.set i.toNat (k_1, (a3.getD i.toNat (0, ([], ([], (0, []))))).2)).set i.toNat (((a3.set i.toNat (k_1, (a3.getD i.toNat (0, ([], ([], (0, []))))).2)).getD i.toNat (0, ([], ([], (0, []))))).1, (r4_.2, ((a3.set i.toNat (k_1, (a3.getD i.toNat (0, ([], ([], (0, []))))).2)).getD i.toNat (0, ([], ([], (0, []))))).2.2))).getD i.toNat (0, ([], ([], (0, []))))).2.2.1).bind fun r5_ =>
    laws_markRuleS_j1 i (r5_.1, (((a3.set i.toNat (k_1, (a3.getD i.toNat (0, ([], ([], (0, []))))).2)).set i.toNat (((a3.set i.toNat (k_1, (a3.getD i.toNat (0, ([], ([], (0, []))))).2)).getD i.toNat (0, ([], ([], (0, []))))).1, (r4_.2, ((a3.set i.toNat (k_1, (a3.getD i.toNat (0, ([], ([], (0, []))))).2)).getD i.toNat (0, ([], ([], (0, []))))).2.2))).set i.toNat ((((a3.set i.toNat (k_1, (a3.getD i.toNat (0, ([], ([], (0, []))))).2)).set i.toNat (((a3.set i.toNat (k_1, (a3.getD i.toNat (0, ([], ([], (0, []))))).2)).getD i.toNat (0, ([], ([], (0, []))))).1, (r4_.2, ((a3.set i.toNat (k_1, (a3.getD i.toNat (0, ([], ([], (0, []))))).2)).getD i.toNat (0, ([], ([], (0, []))))).2.2))).getD i.toNat (0, ([], ([], (0, []))))).1, ((((a3.set i.toNat (k_1, (a3.getD i.toNat (0, ([], ([], (0, []))))).2)).set i.toNat (((a3.set i.toNat (k_1, (a3.getD i.toNat (0, ([], ([], (0, []))))).2)).getD i.toNat (0, ([], ([], (0, []))))).1, (r4_.2, ((a3.set i.toNat (k_1, (a3.getD i.toNat (0, ([], ([], (0, []))))).2)).getD i.toNat (0, ([], ([], (0, []))))).2.2))).getD i.toNat (0, ([], ([], (0, []))))).2.1, (r5_.2, (((a3.set i.toNat (k_1, (a3.getD i.toNat (0, ([], ([], (0, []))))).2)).set i.toNat (((a3.set i.toNat (k_1, (a3.getD i.toNat (0, ([], ([], (0, []))))).2)).getD i.toNat (0, ([], ([], (0, []))))).1, (r4_.2, ((a3.set i.toNat (k_1, (a3.getD i.toNat (0, ([], ([], (0, []))))).2)).getD i.toNat (0, ([], ([], (0, []))))).2.2))).getD i.toNat (0, ([], ([], (0, []))))).2.2.2)))))) (
    some (.inr (k_1, a3)))

noncomputable def laws_markRuleS (k_ : Int) (a : List (Int × (List Int) × (List Int) × Int × (List (List Int)))) : Option (Int × (List (Int × (List Int) × (List Int) × Int × (List (List Int))))) :=
  loop (laws_markRuleS_l1) (k_, (0:Int), a)

/-- laws.markModel -/
noncomputable def laws_markModel (k_ : Int) (o0 : List Int) (o1 : List (Int × (List Int) × (List Int) × Int × (List (List Int)))) : Option (Int × (List Int) × (List (Int × (List Int) × (List Int) × Int × (List (List Int))))) :=
  (laws_markIntS k_ o0).bind fun r1_ =>
  (laws_markRuleS r1_.1 o1).bind fun r2_ =>
  some (r2_.1, r1_.2, r2_.2)

/-- laws.markTermS -/
noncomputable def laws_markTermS_j1 (k_1 : Int) (i : Int) : (List (Int × Int)) → Option ((Int × Int × (List (Int × Int))) ⊕ (Int × (List (Int × Int)))) := fun a3 =>
  rq (i64 ((k_1 + (1:Int)) + (1:Int))) <|
  rq (i64 (i + (1:Int))) <|
  some (.inl (((k_1 + (1:Int)) + (1:Int)), (i + (1:Int)), a3))

noncomputable def laws_markTermS_l1 : Int × Int × (List (Int × Int)) → Option ((Int × Int × (List (Int × Int))) ⊕ (Int × (List (Int × Int)))) := fun (k_1, i, a2) =>
  cond (decide (i < (a2.length:Int))) (
    rq (0 ≤ i ∧ i < a2.length) <|
    rq (i64 (k_1 + (1:Int))) <|
    rq (0 ≤ i ∧ i < (a2.set i.toNat (k_1, (a2.getD i.toNat (0, 0)).2)).length) <|
    laws_markTermS_j1 k_1 i ((a2.set i.toNat (k_1, (a2.getD i.toNat (0, 0)).2)).set i.toNat (((a2.set i.toNat (k_1, (a2.getD i.toNat (0, 0)).2)).getD i.toNat (0, 0)).1, (k_1 + (1:Int))))) (
    some (.inr (k_1, a2)))

noncomputable def laws_markTermS (k_ : Int) (a : List (Int × Int)) : Option (Int × (List (Int × Int))) :=
  loop (laws_markTermS_l1) (k_, (0:Int), a)

/-- laws.markConstraint -/
noncomputable def laws_markConstraint (a_1 : Int) (k_ : Int) (o0 : List (Int × Int)) : Option (Int × (List (Int × Int))) :=
  (laws_markTermS k_ o0).bind fun r1_ =>
  some (r1_.1, r1_.2)

/-- laws.heldTermS -/
noncomputable def laws_heldTermS_l1 (a : List (Int × Int)) : Int × Int → Option ((Int × Int) ⊕ Int) := fun (k_1, i) =>
  cond (decide (i < (a.length:Int))) (
    rq (0 ≤ i ∧ i < a.length) <|
    cond ((a.getD i.toNat (0, 0)).1 != k_1) (
      some (.inr (-1:Int))) (
      rq (i64 (k_1 + (1:Int))) <|
      rq (0 ≤ i ∧ i < a.length) <|
      cond ((a.getD i.toNat (0, 0)).2 != (k_1 + (1:Int))) (
        some (.inr (-1:Int))) (
        rq (i64 ((k_1 + (1:Int)) + (1:Int))) <|
        rq (i64 (i + (1:Int))) <|
        some (.inl (((k_1 + (1:Int)) + (1:Int)), (i + (1:Int))))))) (
    some (.inr k_1))

noncomputable def laws_heldTermS (a : List (Int × Int)) (k_ : Int) : Option Int :=
  loop (laws_heldTermS_l1 a) (k_, (0:Int))

/-- laws.heldConstraint -/
noncomputable def laws_heldConstraint (a : (List (Int × Int)) × Int) (k_ : Int) : Option Int :=
  (laws_heldTermS a.1 k_).bind fun r1_ =>
  cond (decide (r1_ < (0:Int))) (
    some (-1:Int)) (
    some r1_)

/-- laws.FnExactAtMostConstraint -/
noncomputable def laws_FnExactAtMostConstraint_j1 (a0 : (List Int) × (List (Int × (List Int) × (List Int) × Int × (List (List Int))))) (a1 : List Int) (a2 : Int) (r4_ : Bool × Int × (List (Int × Int))) (r5_ : (List Int) × (List (Int × (List Int) × (List Int) × Int × (List (List Int))))) (r6_ : (List Int)) (r7_ : Bool × Int × (List (Int × Int))) : Unit → Option Bool := fun _ =>
  (laws_toIntS a1).bind fun r13_ =>
  (laws_eqIntS r6_ r13_).bind fun r14_ =>
  cond (!r14_) (
    some false) (
    (laws_markModel (1:Int) r5_.1 r5_.2).bind fun r15_ =>
    (laws_markIntS r15_.1 r6_).bind fun r16_ =>
    cond (decide (r16_.1 < (0:Int))) (
      some false) (
      (laws_eqConstraint (r7_.2.2, r7_.2.1) (r4_.2.2, r4_.2.1)).bind fun r17_ =>
      cond (!r17_) (
        some false) (
        cond (r7_.1 != r4_.1) (
          some false) (
          (laws_markConstraint r7_.2.1 (1:Int) r7_.2.2).bind fun r18_ =>
          (laws_heldConstraint (r18_.2, r7_.2.1) (1:Int)).bind fun r19_ =>
          cond (decide (r19_ < (0:Int))) (
            some false) (
            cond (r19_ != r18_.1) (
              some false) (
              (laws_toModel a0).bind fun r20_ =>
              (laws_toIntS a1).bind fun r21_ =>
              (impl_AtMostConstraint r20_ r21_ a2).bind fun r22_ =>
              (laws_eqConstraint (r22_.2.2, r22_.2.1) (r4_.2.2, r4_.2.1)).bind fun r23_ =>
              cond (!r23_) (
                some false) (
                cond (r22_.1 != r4_.1) (
                  some false) (
                  (laws_heldConstraint (r18_.2, r7_.2.1) (1:Int)).bind fun r24_ =>
                  cond (decide (r24_ < (0:Int))) (
                    some false) (
                    cond (r24_ != r18_.1) (
                      some false) (
                      some true))))))))))

noncomputable def laws_FnExactAtMostConstraint (a0 : (List Int) × (List (Int × (List Int) × (List Int) × Int × (List (List Int))))) (a1 : List Int) (a2 : Int) : Option Bool :=
  cond (decide ((1048576:Int) < (a1.length:Int))) (
    some true) (
    (laws_szModel a0 (1048576:Int)).bind fun r1_ =>
    cond (decide (r1_ < (0:Int))) (
      some true) (
      (laws_toModel a0).bind fun r2_ =>
      (laws_toIntS a1).bind fun r3_ =>
      (spec_AtMostConstraint r2_ r3_ a2).bind fun r4_ =>
      (laws_toModel a0).bind fun r5_ =>
      (laws_toIntS a1).bind fun r6_ =>
      (impl_AtMostConstraint r5_ r6_ a2).bind fun r7_ =>
      (laws_eqConstraint (r7_.2.2, r7_.2.1) (r4_.2.2, r4_.2.1)).bind fun r8_ =>
      cond (!r8_) (
        some false) (
        cond (r7_.1 != r4_.1) (
          some false) (
          (laws_toModel a0).bind fun r11_ =>
          (laws_eqModel r5_ r11_).bind fun r12_ =>
          cond (!r12_) (
            some false) (
            laws_FnExactAtMostConstraint_j1 a0 a1 a2 r4_ r5_ r6_ r7_ ())))))

end Go.AE.Y
