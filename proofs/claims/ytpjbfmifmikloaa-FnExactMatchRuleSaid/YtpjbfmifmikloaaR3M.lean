/-
  Models of the functions: what each computes, as a Lean function into Option. Definitions alone.
-/
import Derived.Test.YtpjbfmifmikloaaAEx3
namespace Go.AE.Y
open Go Go.AE
set_option linter.unusedVariables false

/-- laws.szIntS -/
noncomputable def laws_szIntS (a : List Int) (left : Int) : Option Int :=
  rq (i64 (left - (a.length:Int))) <|
  cond (decide ((left - (a.length:Int)) < (0:Int))) (
    some (-1:Int)) (
    some (left - (a.length:Int)))

/-- laws.szIntSS -/
noncomputable def laws_szIntSS_l1 (a : List (List Int)) : Int × Int → Option ((Int × Int) ⊕ Int) := fun (left1, i) =>
  cond (decide (i < (a.length:Int))) (
    rq (0 ≤ i ∧ i < a.length) <|
    (laws_szIntS (a.getD i.toNat []) left1).bind fun r1_ =>
    cond (decide (r1_ < (0:Int))) (
      some (.inr (-1:Int))) (
      rq (i64 (i + (1:Int))) <|
      some (.inl (r1_, (i + (1:Int)))))) (
    some (.inr left1))

noncomputable def laws_szIntSS (a : List (List Int)) (left : Int) : Option Int :=
  rq (i64 (left - (a.length:Int))) <|
  cond (decide ((left - (a.length:Int)) < (0:Int))) (
    some (-1:Int)) (
    loop (laws_szIntSS_l1 a) ((left - (a.length:Int)), (0:Int)))

/-- laws.szRule -/
noncomputable def laws_szRule (a : Int × (List Int) × (List Int) × Int × (List (List Int))) (left : Int) : Option Int :=
  (laws_szIntS a.2.1 left).bind fun r1_ =>
  cond (decide (r1_ < (0:Int))) (
    some (-1:Int)) (
    (laws_szIntS a.2.2.1 r1_).bind fun r2_ =>
    cond (decide (r2_ < (0:Int))) (
      some (-1:Int)) (
      (laws_szIntSS a.2.2.2.2 r2_).bind fun r3_ =>
      cond (decide (r3_ < (0:Int))) (
        some (-1:Int)) (
        some r3_)))

/-- laws.szRuleS -/
noncomputable def laws_szRuleS_l1 (a : List (Int × (List Int) × (List Int) × Int × (List (List Int)))) : Int × Int → Option ((Int × Int) ⊕ Int) := fun (left1, i) =>
  cond (decide (i < (a.length:Int))) (
    rq (0 ≤ i ∧ i < a.length) <|
    (laws_szRule (a.getD i.toNat (0, ([], ([], (0, []))))) left1).bind fun r1_ =>
    cond (decide (r1_ < (0:Int))) (
      some (.inr (-1:Int))) (
      rq (i64 (i + (1:Int))) <|
      some (.inl (r1_, (i + (1:Int)))))) (
    some (.inr left1))

noncomputable def laws_szRuleS (a : List (Int × (List Int) × (List Int) × Int × (List (List Int)))) (left : Int) : Option Int :=
  rq (i64 (left - (a.length:Int))) <|
  cond (decide ((left - (a.length:Int)) < (0:Int))) (
    some (-1:Int)) (
    loop (laws_szRuleS_l1 a) ((left - (a.length:Int)), (0:Int)))

/-- laws.szModel -/
noncomputable def laws_szModel (a : (List Int) × (List (Int × (List Int) × (List Int) × Int × (List (List Int))))) (left : Int) : Option Int :=
  (laws_szIntS a.1 left).bind fun r1_ =>
  cond (decide (r1_ < (0:Int))) (
    some (-1:Int)) (
    (laws_szRuleS a.2 r1_).bind fun r2_ =>
    cond (decide (r2_ < (0:Int))) (
      some (-1:Int)) (
      some r2_))

/-- laws.szBoolS -/
noncomputable def laws_szBoolS (a : List Bool) (left : Int) : Option Int :=
  rq (i64 (left - (a.length:Int))) <|
  cond (decide ((left - (a.length:Int)) < (0:Int))) (
    some (-1:Int)) (
    some (left - (a.length:Int)))

/-- laws.szBoolSS -/
noncomputable def laws_szBoolSS_l1 (a : List (List Bool)) : Int × Int → Option ((Int × Int) ⊕ Int) := fun (left1, i) =>
  cond (decide (i < (a.length:Int))) (
    rq (0 ≤ i ∧ i < a.length) <|
    (laws_szBoolS (a.getD i.toNat []) left1).bind fun r1_ =>
    cond (decide (r1_ < (0:Int))) (
      some (.inr (-1:Int))) (
      rq (i64 (i + (1:Int))) <|
      some (.inl (r1_, (i + (1:Int)))))) (
    some (.inr left1))

noncomputable def laws_szBoolSS (a : List (List Bool)) (left : Int) : Option Int :=
  rq (i64 (left - (a.length:Int))) <|
  cond (decide ((left - (a.length:Int)) < (0:Int))) (
    some (-1:Int)) (
    loop (laws_szBoolSS_l1 a) ((left - (a.length:Int)), (0:Int)))

/-- laws.toIntS -/
noncomputable def laws_toIntS_l1 (a : List Int) : Int × (List Int) → Option ((Int × (List Int)) ⊕ (List Int)) := fun (i, out) =>
  cond (decide (i < (a.length:Int))) (
    rq (0 ≤ i ∧ i < a.length) <|
    rq (0 ≤ i ∧ i < out.length) <|
    rq (i64 (i + (1:Int))) <|
    some (.inl ((i + (1:Int)), (out.set i.toNat (a.getD i.toNat 0))))) (
    some (.inr out))

noncomputable def laws_toIntS (a : List Int) : Option (List Int) :=
  rq (0 ≤ (a.length:Int) ∧ (a.length:Int) ≤ bound ∧ (a.length:Int) = (a.length:Int)) <|
  loop (laws_toIntS_l1 a) ((0:Int), (List.replicate (a.length:Int).toNat 0))

/-- laws.toIntSS -/
noncomputable def laws_toIntSS_l1 (a : List (List Int)) : Int × (List (List Int)) → Option ((Int × (List (List Int))) ⊕ (List (List Int))) := fun (i, out) =>
  cond (decide (i < (a.length:Int))) (
    rq (0 ≤ i ∧ i < a.length) <|
    (laws_toIntS (a.getD i.toNat [])).bind fun r2_ =>
    rq (0 ≤ i ∧ i < out.length) <|
    rq (i64 (i + (1:Int))) <|
    some (.inl ((i + (1:Int)), (out.set i.toNat r2_)))) (
    some (.inr out))

noncomputable def laws_toIntSS (a : List (List Int)) : Option (List (List Int)) :=
  rq (0 ≤ (a.length:Int) ∧ (a.length:Int) ≤ bound ∧ (a.length:Int) = (a.length:Int)) <|
  loop (laws_toIntSS_l1 a) ((0:Int), (List.replicate (a.length:Int).toNat []))

/-- laws.toRule -/
noncomputable def laws_toRule (a : Int × (List Int) × (List Int) × Int × (List (List Int))) : Option (Int × Int × (List Int) × (List Int) × (List (List Int))) :=
  (laws_toIntS a.2.1).bind fun r1_ =>
  (laws_toIntS a.2.2.1).bind fun r2_ =>
  (laws_toIntSS a.2.2.2.2).bind fun r3_ =>
  some (a.1, a.2.2.2.1, r1_, r2_, r3_)

/-- laws.toRuleS -/
noncomputable def laws_toRuleS_l1 (a : List (Int × (List Int) × (List Int) × Int × (List (List Int)))) : Int × (List (Int × (List Int) × (List Int) × Int × (List (List Int)))) → Option ((Int × (List (Int × (List Int) × (List Int) × Int × (List (List Int))))) ⊕ ((List (Int × (List Int) × (List Int) × Int × (List (List Int)))))) := fun (i, out) =>
  cond (decide (i < (a.length:Int))) (
    rq (0 ≤ i ∧ i < a.length) <|
    (laws_toRule (a.getD i.toNat (0, ([], ([], (0, [])))))).bind fun r2_ =>
    rq (0 ≤ i ∧ i < out.length) <|
    rq (i64 (i + (1:Int))) <|
    some (.inl ((i + (1:Int)), (out.set i.toNat (r2_.1, (r2_.2.2.1, (r2_.2.2.2.1, (r2_.2.1, r2_.2.2.2.2)))))))) (
    some (.inr out))

noncomputable def laws_toRuleS (a : List (Int × (List Int) × (List Int) × Int × (List (List Int)))) : Option ((List (Int × (List Int) × (List Int) × Int × (List (List Int))))) :=
  rq (0 ≤ (a.length:Int) ∧ (a.length:Int) ≤ bound ∧ (a.length:Int) = (a.length:Int)) <|
  loop (laws_toRuleS_l1 a) ((0:Int), (List.replicate (a.length:Int).toNat (0, ([], ([], (0, []))))))

/-- laws.toModel -/
noncomputable def laws_toModel (a : (List Int) × (List (Int × (List Int) × (List Int) × Int × (List (List Int))))) : Option ((List Int) × (List (Int × (List Int) × (List Int) × Int × (List (List Int))))) :=
  (laws_toIntS a.1).bind fun r1_ =>
  (laws_toRuleS a.2).bind fun r2_ =>
  some (r1_, r2_)

/-- laws.toBoolS -/
noncomputable def laws_toBoolS_l1 (a : List Bool) : Int × (List Bool) → Option ((Int × (List Bool)) ⊕ (List Bool)) := fun (i, out) =>
  cond (decide (i < (a.length:Int))) (
    rq (0 ≤ i ∧ i < a.length) <|
    rq (0 ≤ i ∧ i < out.length) <|
    rq (i64 (i + (1:Int))) <|
    some (.inl ((i + (1:Int)), (out.set i.toNat (a.getD i.toNat false))))) (
    some (.inr out))

noncomputable def laws_toBoolS (a : List Bool) : Option (List Bool) :=
  rq (0 ≤ (a.length:Int) ∧ (a.length:Int) ≤ bound ∧ (a.length:Int) = (a.length:Int)) <|
  loop (laws_toBoolS_l1 a) ((0:Int), (List.replicate (a.length:Int).toNat false))

/-- laws.toBoolSS -/
noncomputable def laws_toBoolSS_l1 (a : List (List Bool)) : Int × (List (List Bool)) → Option ((Int × (List (List Bool))) ⊕ (List (List Bool))) := fun (i, out) =>
  cond (decide (i < (a.length:Int))) (
    rq (0 ≤ i ∧ i < a.length) <|
    (laws_toBoolS (a.getD i.toNat [])).bind fun r2_ =>
    rq (0 ≤ i ∧ i < out.length) <|
    rq (i64 (i + (1:Int))) <|
    some (.inl ((i + (1:Int)), (out.set i.toNat r2_)))) (
    some (.inr out))

noncomputable def laws_toBoolSS (a : List (List Bool)) : Option (List (List Bool)) :=
  rq (0 ≤ (a.length:Int) ∧ (a.length:Int) ≤ bound ∧ (a.length:Int) = (a.length:Int)) <|
  loop (laws_toBoolSS_l1 a) ((0:Int), (List.replicate (a.length:Int).toNat []))

/-- spec.l6Vars -/
noncomputable def spec_l6Vars_l2 (list_ : List Int) (i : Int) : Int → Option (Int ⊕ (Int ⊕ Bool)) := fun k_ =>
  cond (decide (k_ < i)) (
    rq (0 ≤ k_ ∧ k_ < list_.length) <|
    rq (0 ≤ i ∧ i < list_.length) <|
    cond ((list_.getD k_.toNat 0) == (list_.getD i.toNat 0)) (
      some (.inr (.inr false))) (
      rq (i64 (k_ + (1:Int))) <|
      some (.inl (k_ + (1:Int))))) (
    rq (i64 (i + (1:Int))) <|
    some (.inr (.inl (i + (1:Int)))))

noncomputable def spec_l6Vars_l1 (m : (List Int) × (List (Int × (List Int) × (List Int) × Int × (List (List Int))))) (list_ : List Int) : Int → Option (Int ⊕ Bool) := fun i =>
  cond (decide (i < (list_.length:Int))) (
    rq (0 ≤ i ∧ i < list_.length) <|
    cond (decide ((list_.getD i.toNat 0) < (0:Int))) (
      some (.inr false)) (
      rq (0 ≤ i ∧ i < list_.length) <|
      cond (decide ((m.1.length:Int) ≤ (list_.getD i.toNat 0))) (
        some (.inr false)) (
        loop (spec_l6Vars_l2 list_ i) (0:Int)))) (
    some (.inr (decide ((1:Int) ≤ (list_.length:Int)))))

noncomputable def spec_l6Vars (m : (List Int) × (List (Int × (List Int) × (List Int) × Int × (List (List Int))))) (list_ : List Int) : Option Bool :=
  loop (spec_l6Vars_l1 m list_) (0:Int)

/-- spec.l6Linear -/
noncomputable def spec_l6Linear_l1 (r_ : Int × (List Int) × (List Int) × Int × (List (List Int))) : Int → Option (Int ⊕ Bool) := fun i =>
  cond (decide (i < (r_.2.2.1.length:Int))) (
    rq (0 ≤ i ∧ i < r_.2.2.1.length) <|
    cond (decide ((r_.2.2.1.getD i.toNat 0) < (-9:Int))) (
      some (.inr false)) (
      rq (0 ≤ i ∧ i < r_.2.2.1.length) <|
      cond (decide ((9:Int) < (r_.2.2.1.getD i.toNat 0))) (
        some (.inr false)) (
        rq (0 ≤ i ∧ i < r_.2.2.1.length) <|
        cond ((r_.2.2.1.getD i.toNat 0) == (0:Int)) (
          some (.inr false)) (
          rq (i64 (i + (1:Int))) <|
          some (.inl (i + (1:Int))))))) (
    cond ((r_.2.2.1.length:Int) == (r_.2.1.length:Int)) (
      cond (decide ((-1000:Int) ≤ r_.2.2.2.1)) (
        some (.inr (decide (r_.2.2.2.1 ≤ (1000:Int))))) (
        some (.inr false))) (
      some (.inr false)))

noncomputable def spec_l6Linear (r_ : Int × (List Int) × (List Int) × Int × (List (List Int))) : Option Bool :=
  loop (spec_l6Linear_l1 r_) (0:Int)

/-- spec.l6Table -/
noncomputable def spec_l6Table_l2 (r_ : Int × (List Int) × (List Int) × Int × (List (List Int))) (i : Int) : Int → Option (Int ⊕ (Int ⊕ Bool)) := fun k_ =>
  rq (0 ≤ i ∧ i < r_.2.2.2.2.length) <|
  cond (decide (k_ < ((r_.2.2.2.2.getD i.toNat []).length:Int))) (
    rq (0 ≤ i ∧ i < r_.2.2.2.2.length) <|
    rq (0 ≤ k_ ∧ k_ < (r_.2.2.2.2.getD i.toNat []).length) <|
    cond (decide (((r_.2.2.2.2.getD i.toNat []).getD k_.toNat 0) < (0:Int))) (
      some (.inr (.inr false))) (
      rq (0 ≤ i ∧ i < r_.2.2.2.2.length) <|
      rq (0 ≤ k_ ∧ k_ < (r_.2.2.2.2.getD i.toNat []).length) <|
      cond (decide ((3:Int) < ((r_.2.2.2.2.getD i.toNat []).getD k_.toNat 0))) (
        some (.inr (.inr false))) (
        rq (i64 (k_ + (1:Int))) <|
        some (.inl (k_ + (1:Int)))))) (
    rq (i64 (i + (1:Int))) <|
    some (.inr (.inl (i + (1:Int)))))

noncomputable def spec_l6Table_l1 (r_ : Int × (List Int) × (List Int) × Int × (List (List Int))) : Int → Option (Int ⊕ Bool) := fun i =>
  cond (decide (i < (r_.2.2.2.2.length:Int))) (
    rq (0 ≤ i ∧ i < r_.2.2.2.2.length) <|
    cond (((r_.2.2.2.2.getD i.toNat []).length:Int) != (r_.2.1.length:Int)) (
      some (.inr false)) (
      loop (spec_l6Table_l2 r_ i) (0:Int))) (
    some (.inr (decide ((r_.2.2.2.2.length:Int) ≤ (8:Int)))))

noncomputable def spec_l6Table (r_ : Int × (List Int) × (List Int) × Int × (List (List Int))) : Option Bool :=
  loop (spec_l6Table_l1 r_) (0:Int)

/-- spec.l6Rule -/
noncomputable def spec_l6Rule_j1 (r_ : Int × (List Int) × (List Int) × Int × (List (List Int))) : Unit → Option Bool := fun _ =>
  cond (r_.1 == (1:Int)) (
    (spec_l6Linear r_).bind fun r2_ =>
    some r2_) (
    cond (r_.1 == (2:Int)) (
      some true) (
      cond (r_.1 == (3:Int)) (
        (spec_l6Table r_).bind fun r3_ =>
        some r3_) (
        cond (r_.1 == (4:Int)) (
          some ((r_.2.1.length:Int) == (2:Int))) (
          some false))))

noncomputable def spec_l6Rule (m : (List Int) × (List (Int × (List Int) × (List Int) × Int × (List (List Int))))) (r_ : Int × (List Int) × (List Int) × Int × (List (List Int))) : Option Bool :=
  (spec_l6Vars m r_.2.1).bind fun r1_ =>
  cond (!r1_) (
    some false) (
    cond (r_.1 != (1:Int)) (
      cond ((r_.2.2.1.length:Int) != (0:Int)) (
        some false) (
        cond (r_.2.2.2.1 != (0:Int)) (
          some false) (
          cond (r_.1 != (3:Int)) (
            cond ((r_.2.2.2.2.length:Int) != (0:Int)) (
              some false) (
              spec_l6Rule_j1 r_ ())) (
            spec_l6Rule_j1 r_ ())))) (
      cond (r_.1 != (3:Int)) (
        cond ((r_.2.2.2.2.length:Int) != (0:Int)) (
          some false) (
          spec_l6Rule_j1 r_ ())) (
        spec_l6Rule_j1 r_ ())))

/-- spec.ModelValid -/
noncomputable def spec_ModelValid_l1 (a0 : (List Int) × (List (Int × (List Int) × (List Int) × Int × (List (List Int))))) : Int → Option (Int ⊕ Bool) := fun i3 =>
  cond (decide (i3 < (a0.2.length:Int))) (
    rq (0 ≤ i3 ∧ i3 < a0.2.length) <|
    (spec_l6Rule a0 (a0.2.getD i3.toNat (0, ([], ([], (0, [])))))).bind fun r2_ =>
    cond (!r2_) (
      some (.inr false)) (
      rq (i64 (i3 + (1:Int))) <|
      some (.inl (i3 + (1:Int))))) (
    some (.inr true))

noncomputable def spec_ModelValid_j1 (a0 : (List Int) × (List (Int × (List Int) × (List Int) × Int × (List (List Int))))) : Int → Option Bool := fun i2 =>
  cond (decide ((a0.1.length:Int) < (1:Int))) (
    some false) (
    cond (decide ((5:Int) < (a0.1.length:Int))) (
      some false) (
      cond (decide ((12:Int) < i2)) (
        some false) (
        cond (decide ((8:Int) < (a0.2.length:Int))) (
          some false) (
          loop (spec_ModelValid_l1 a0) (0:Int)))))

noncomputable def spec_ModelValid_l2 (a0 : (List Int) × (List (Int × (List Int) × (List Int) × Int × (List (List Int))))) : Int × Int → Option ((Int × Int) ⊕ Bool) := fun (i, i1) =>
  cond (decide (i1 < (a0.1.length:Int))) (
    cond (decide (i1 < (5:Int))) (
      rq (0 ≤ i1 ∧ i1 < a0.1.length) <|
      cond (decide ((a0.1.getD i1.toNat 0) < (0:Int))) (
        some (.inr false)) (
        rq (0 ≤ i1 ∧ i1 < a0.1.length) <|
        cond (decide ((3:Int) < (a0.1.getD i1.toNat 0))) (
          some (.inr false)) (
          rq (0 ≤ i1 ∧ i1 < a0.1.length) <|
          rq (i64 (i + (a0.1.getD i1.toNat 0))) <|
          rq (i64 ((i + (a0.1.getD i1.toNat 0)) + (1:Int))) <|
          rq (i64 (i1 + (1:Int))) <|
          some (.inl (((i + (a0.1.getD i1.toNat 0)) + (1:Int)), (i1 + (1:Int))))))) (
      up (spec_ModelValid_j1 a0 i))) (
    up (spec_ModelValid_j1 a0 i))

noncomputable def spec_ModelValid (a0 : (List Int) × (List (Int × (List Int) × (List Int) × Int × (List (List Int))))) : Option Bool :=
  loop (spec_ModelValid_l2 a0) ((0:Int), (0:Int))

/-- spec.l8Fits -/
noncomputable def spec_l8Fits_l1 (m : (List Int) × (List (Int × (List Int) × (List Int) × Int × (List (List Int))))) (d : List (List Bool)) : Int → Option (Int ⊕ Bool) := fun i =>
  cond (decide (i < (d.length:Int))) (
    rq (0 ≤ i ∧ i < d.length) <|
    rq (0 ≤ i ∧ i < m.1.length) <|
    rq (i64 ((m.1.getD i.toNat 0) + (1:Int))) <|
    cond (((d.getD i.toNat []).length:Int) != ((m.1.getD i.toNat 0) + (1:Int))) (
      some (.inr false)) (
      rq (i64 (i + (1:Int))) <|
      some (.inl (i + (1:Int))))) (
    some (.inr true))

noncomputable def spec_l8Fits (m : (List Int) × (List (Int × (List Int) × (List Int) × Int × (List (List Int))))) (d : List (List Bool)) : Option Bool :=
  cond ((d.length:Int) != (m.1.length:Int)) (
    some false) (
    loop (spec_l8Fits_l1 m d) (0:Int))

/-- spec.DomainsValid -/
noncomputable def spec_DomainsValid (m : (List Int) × (List (Int × (List Int) × (List Int) × Int × (List (List Int))))) (d : List (List Bool)) : Option Bool :=
  (spec_ModelValid m).bind fun r1_ =>
  cond r1_ (
    (spec_l8Fits m d).bind fun r2_ =>
    some r2_) (
    some false)

/-- spec.l8Match -/
noncomputable def spec_l8Match_l2 (d : List (List Bool)) (vars : List Int) (at_ : Int) (k_ : Int) (rec_ : (List (List Bool)) → (List Int) → Int → (List Int) → Option (Bool × (List Int))) (out1 : List Int) : Bool × Int → Option ((Bool × Int) ⊕ ((Int × (List Int)) ⊕ (Bool × (List Int)))) := fun (free1, i1) =>
  cond (decide (i1 < at_)) (
    cond free1 (
      rq (0 ≤ i1 ∧ i1 < out1.length) <|
      rq (i64 (i1 + (1:Int))) <|
      some (.inl (((out1.getD i1.toNat 0) != k_), (i1 + (1:Int))))) (
      rq (i64 (i1 + (1:Int))) <|
      some (.inl (false, (i1 + (1:Int)))))) (
    cond free1 (
      rq (0 ≤ at_ ∧ at_ < out1.length) <|
      rq (i64 (at_ + (1:Int))) <|
      (rec_ d vars (at_ + (1:Int)) (out1.set at_.toNat k_)).bind fun r2_ =>
      cond r2_.1 (
        some (.inr (.inr (true, r2_.2)))) (
        rq (i64 (k_ + (1:Int))) <|
        some (.inr (.inl ((k_ + (1:Int)), r2_.2))))) (
      rq (i64 (k_ + (1:Int))) <|
      some (.inr (.inl ((k_ + (1:Int)), out1)))))

noncomputable def spec_l8Match_l1 (d : List (List Bool)) (vars : List Int) (at_ : Int) (rec_ : (List (List Bool)) → (List Int) → Int → (List Int) → Option (Bool × (List Int))) : Int × (List Int) → Option ((Int × (List Int)) ⊕ (Bool × (List Int))) := fun (k_, out1) =>
  rq (0 ≤ at_ ∧ at_ < vars.length) <|
  rq (0 ≤ (vars.getD at_.toNat 0) ∧ (vars.getD at_.toNat 0) < d.length) <|
  cond (decide (k_ < ((d.getD (vars.getD at_.toNat 0).toNat []).length:Int))) (
    rq (0 ≤ at_ ∧ at_ < vars.length) <|
    rq (0 ≤ (vars.getD at_.toNat 0) ∧ (vars.getD at_.toNat 0) < d.length) <|
    rq (0 ≤ k_ ∧ k_ < (d.getD (vars.getD at_.toNat 0).toNat []).length) <|
    loop (spec_l8Match_l2 d vars at_ k_ rec_ out1) (((d.getD (vars.getD at_.toNat 0).toNat []).getD k_.toNat false), (0:Int))) (
    some (.inr (false, out1)))

noncomputable def spec_l8Match_rec (rec_ : (List (List Bool)) → (List Int) → Int → (List Int) → Option (Bool × (List Int))) (d : List (List Bool)) (vars : List Int) (at_ : Int) (out : List Int) : Option (Bool × (List Int)) :=
  cond (at_ == (vars.length:Int)) (
    some (true, out)) (
    loop (spec_l8Match_l1 d vars at_ rec_) ((0:Int), out))

/-- So many calls within calls. -/
noncomputable def spec_l8Match : Nat → (List (List Bool)) → (List Int) → Int → (List Int) → Option (Bool × (List Int))
  | 0 => fun _ _ _ _ => none
  | n_ + 1 => spec_l8Match_rec (spec_l8Match n_)

/-- spec.MatchRule -/
noncomputable def spec_MatchRule (m : (List Int) × (List (Int × (List Int) × (List Int) × Int × (List (List Int))))) (rule : Int) (d : List (List Bool)) : Option (Bool × (List Int)) :=
  (spec_DomainsValid m d).bind fun r1_ =>
  cond (!r1_) (
    some (false, ([] : List Int))) (
    cond (decide (rule < (0:Int))) (
      some (false, ([] : List Int))) (
      cond (decide ((m.2.length:Int) ≤ rule)) (
        some (false, ([] : List Int))) (
        rq (0 ≤ rule ∧ rule < m.2.length) <|
        rq (0 ≤ ((m.2.getD rule.toNat (0, ([], ([], (0, []))))).2.1.length:Int) ∧ ((m.2.getD rule.toNat (0, ([], ([], (0, []))))).2.1.length:Int) ≤ bound ∧ ((m.2.getD rule.toNat (0, ([], ([], (0, []))))).2.1.length:Int) = ((m.2.getD rule.toNat (0, ([], ([], (0, []))))).2.1.length:Int)) <|
        (spec_l8Match 64 d (m.2.getD rule.toNat (0, ([], ([], (0, []))))).2.1 (0:Int) (List.replicate ((m.2.getD rule.toNat (0, ([], ([], (0, []))))).2.1.length:Int).toNat 0)).bind fun r2_ =>
        cond (!r2_.1) (
          some (false, ([] : List Int))) (
          some (true, r2_.2)))))

/-- impl.within -/
noncomputable def impl_within (n : Int) (low : Int) (high : Int) : Option Bool :=
  cond (decide (low ≤ n)) (
    some (decide (n ≤ high))) (
    some false)

/-- slices.Index[[]int,int] -/
noncomputable def slices_Index_int_l1 (s_ : List Int) (v : Int) : Int → Option (Int ⊕ Int) := fun i =>
  cond (decide (i < (s_.length:Int))) (
    rq (0 ≤ i ∧ i < s_.length) <|
    cond (v == (s_.getD i.toNat 0)) (
      some (.inr i)) (
      rq (i64 (i + (1:Int))) <|
      some (.inl (i + (1:Int))))) (
    some (.inr (-1:Int)))

noncomputable def slices_Index_int (s_ : List Int) (v : Int) : Option Int :=
  loop (slices_Index_int_l1 s_ v) (0:Int)

/-- slices.Contains[[]int,int] -/
noncomputable def slices_Contains_int (s_ : List Int) (v : Int) : Option Bool :=
  (slices_Index_int s_ v).bind fun r1_ =>
  some (decide ((0:Int) ≤ r1_))

/-- impl.ruleValid$1 -/
noncomputable def impl_ruleValid_1 (n : Int) : Option Bool :=
  cond (n == (0:Int)) (
    some true) (
    (impl_within n (-9:Int) (9:Int)).bind fun r1_ =>
    some (!r1_))

/-- slices.IndexFunc[[]int,int] -/
noncomputable def slices_IndexFunc_int__impl_ruleValid_1_l1 (s_ : List Int) : Int → Option (Int ⊕ Int) := fun i =>
  cond (decide (i < (s_.length:Int))) (
    rq (0 ≤ i ∧ i < s_.length) <|
    (impl_ruleValid_1 (s_.getD i.toNat 0)).bind fun r1_ =>
    cond r1_ (
      some (.inr i)) (
      rq (i64 (i + (1:Int))) <|
      some (.inl (i + (1:Int))))) (
    some (.inr (-1:Int)))

noncomputable def slices_IndexFunc_int__impl_ruleValid_1 (s_ : List Int) : Option Int :=
  loop (slices_IndexFunc_int__impl_ruleValid_1_l1 s_) (0:Int)

/-- slices.ContainsFunc[[]int,int] -/
noncomputable def slices_ContainsFunc_int__impl_ruleValid_1 (s_ : List Int) : Option Bool :=
  (slices_IndexFunc_int__impl_ruleValid_1 s_).bind fun r1_ =>
  some (decide ((0:Int) ≤ r1_))

/-- impl.ruleValid$2$1 -/
noncomputable def impl_ruleValid_2_1 (n : Int) : Option Bool :=
  (impl_within n (0:Int) (3:Int)).bind fun r1_ =>
  some (!r1_)

/-- slices.IndexFunc[[]int,int] -/
noncomputable def slices_IndexFunc_int__impl_ruleValid_2_1_l1 (s_ : List Int) : Int → Option (Int ⊕ Int) := fun i =>
  cond (decide (i < (s_.length:Int))) (
    rq (0 ≤ i ∧ i < s_.length) <|
    (impl_ruleValid_2_1 (s_.getD i.toNat 0)).bind fun r1_ =>
    cond r1_ (
      some (.inr i)) (
      rq (i64 (i + (1:Int))) <|
      some (.inl (i + (1:Int))))) (
    some (.inr (-1:Int)))

noncomputable def slices_IndexFunc_int__impl_ruleValid_2_1 (s_ : List Int) : Option Int :=
  loop (slices_IndexFunc_int__impl_ruleValid_2_1_l1 s_) (0:Int)

/-- slices.ContainsFunc[[]int,int] -/
noncomputable def slices_ContainsFunc_int__impl_ruleValid_2_1 (s_ : List Int) : Option Bool :=
  (slices_IndexFunc_int__impl_ruleValid_2_1 s_).bind fun r1_ =>
  some (decide ((0:Int) ≤ r1_))

/-- impl.ruleValid$2 -/
noncomputable def impl_ruleValid_2 (row : List Int) (o0 : Int × (List Int) × (List Int) × Int × (List (List Int))) : Option Bool :=
  cond ((row.length:Int) != (o0.2.1.length:Int)) (
    some true) (
    (slices_ContainsFunc_int__impl_ruleValid_2_1 row).bind fun r1_ =>
    some r1_)

/-- slices.IndexFunc[[][]int,[]int] -/
noncomputable def slices_IndexFunc_s_int__impl_ruleValid_2_l1 (s_ : List (List Int)) (o0 : Int × (List Int) × (List Int) × Int × (List (List Int))) : Int → Option (Int ⊕ Int) := fun i =>
  cond (decide (i < (s_.length:Int))) (
    rq (0 ≤ i ∧ i < s_.length) <|
    (impl_ruleValid_2 (s_.getD i.toNat []) o0).bind fun r1_ =>
    cond r1_ (
      some (.inr i)) (
      rq (i64 (i + (1:Int))) <|
      some (.inl (i + (1:Int))))) (
    some (.inr (-1:Int)))

noncomputable def slices_IndexFunc_s_int__impl_ruleValid_2 (s_ : List (List Int)) (o0 : Int × (List Int) × (List Int) × Int × (List (List Int))) : Option Int :=
  loop (slices_IndexFunc_s_int__impl_ruleValid_2_l1 s_ o0) (0:Int)

/-- slices.ContainsFunc[[][]int,[]int] -/
noncomputable def slices_ContainsFunc_s_int__impl_ruleValid_2 (s_ : List (List Int)) (o0 : Int × (List Int) × (List Int) × Int × (List (List Int))) : Option Bool :=
  (slices_IndexFunc_s_int__impl_ruleValid_2 s_ o0).bind fun r1_ =>
  some (decide ((0:Int) ≤ r1_))

/-- impl.ruleValid -/
noncomputable def impl_ruleValid_j1 (a0 : Int × (List Int) × (List Int) × Int × (List (List Int))) : Unit → Option (Int ⊕ Bool) := fun _ =>
  cond (a0.1 == (1:Int)) (
    cond ((a0.2.2.1.length:Int) == (a0.2.1.length:Int)) (
      (impl_within a0.2.2.2.1 (-1000:Int) (1000:Int)).bind fun r3_ =>
      cond r3_ (
        (slices_ContainsFunc_int__impl_ruleValid_1 a0.2.2.1).bind fun r4_ =>
        some (.inr (!r4_))) (
        some (.inr false))) (
      some (.inr false))) (
    cond (a0.1 == (3:Int)) (
      cond (decide ((a0.2.2.2.2.length:Int) ≤ (8:Int))) (
        (slices_ContainsFunc_s_int__impl_ruleValid_2 a0.2.2.2.2 a0).bind fun r5_ =>
        some (.inr (!r5_))) (
        some (.inr false))) (
      cond (a0.1 == (4:Int)) (
        some (.inr ((a0.2.1.length:Int) == (2:Int)))) (
        some (.inr (a0.1 == (2:Int))))))

noncomputable def impl_ruleValid_l1 (a0 : Int × (List Int) × (List Int) × Int × (List (List Int))) (a1 : Int) : Int → Option (Int ⊕ Bool) := fun i =>
  cond (decide (i < (a0.2.1.length:Int))) (
    rq (0 ≤ i ∧ i < a0.2.1.length) <|
    rq (i64 (a1 - (1:Int))) <|
    (impl_within (a0.2.1.getD i.toNat 0) (0:Int) (a1 - (1:Int))).bind fun r1_ =>
    cond (!r1_) (
      some (.inr false)) (
      rq (0 ≤ i ∧ i ≤ a0.2.1.length) <|
      (slices_Contains_int (a0.2.1.take i.toNat) (a0.2.1.getD i.toNat 0)).bind fun r2_ =>
      cond r2_ (
        some (.inr false)) (
        rq (i64 (i + (1:Int))) <|
        some (.inl (i + (1:Int)))))) (
    cond ((a0.2.1.length:Int) == (0:Int)) (
      some (.inr false)) (
      cond (a0.1 != (1:Int)) (
        cond (decide ((0:Int) < (a0.2.2.1.length:Int))) (
          some (.inr false)) (
          cond (a0.2.2.2.1 != (0:Int)) (
            some (.inr false)) (
            cond (a0.1 != (3:Int)) (
              cond (decide ((0:Int) < (a0.2.2.2.2.length:Int))) (
                some (.inr false)) (
                impl_ruleValid_j1 a0 ())) (
              impl_ruleValid_j1 a0 ())))) (
        cond (a0.1 != (3:Int)) (
          cond (decide ((0:Int) < (a0.2.2.2.2.length:Int))) (
            some (.inr false)) (
            impl_ruleValid_j1 a0 ())) (
          impl_ruleValid_j1 a0 ()))))

noncomputable def impl_ruleValid (a0 : Int × (List Int) × (List Int) × Int × (List (List Int))) (a1 : Int) : Option Bool :=
  loop (impl_ruleValid_l1 a0 a1) (0:Int)

/-- impl.ModelValid$1 -/
noncomputable def impl_ModelValid_1 (r_ : Int × (List Int) × (List Int) × Int × (List (List Int))) (o0 : (List Int) × (List (Int × (List Int) × (List Int) × Int × (List (List Int))))) : Option Bool :=
  (impl_ruleValid r_ (o0.1.length:Int)).bind fun r1_ =>
  some (!r1_)

/-- slices.IndexFunc[[]impl.Rule,impl.Rule] -/
noncomputable def slices_IndexFunc_impl_Rule__impl_ModelValid_1_l1 (s_ : List (Int × (List Int) × (List Int) × Int × (List (List Int)))) (o0 : (List Int) × (List (Int × (List Int) × (List Int) × Int × (List (List Int))))) : Int → Option (Int ⊕ Int) := fun i =>
  cond (decide (i < (s_.length:Int))) (
    rq (0 ≤ i ∧ i < s_.length) <|
    (impl_ModelValid_1 (s_.getD i.toNat (0, ([], ([], (0, []))))) o0).bind fun r1_ =>
    cond r1_ (
      some (.inr i)) (
      rq (i64 (i + (1:Int))) <|
      some (.inl (i + (1:Int))))) (
    some (.inr (-1:Int)))

noncomputable def slices_IndexFunc_impl_Rule__impl_ModelValid_1 (s_ : List (Int × (List Int) × (List Int) × Int × (List (List Int)))) (o0 : (List Int) × (List (Int × (List Int) × (List Int) × Int × (List (List Int))))) : Option Int :=
  loop (slices_IndexFunc_impl_Rule__impl_ModelValid_1_l1 s_ o0) (0:Int)

/-- slices.ContainsFunc[[]impl.Rule,impl.Rule] -/
noncomputable def slices_ContainsFunc_impl_Rule__impl_ModelValid_1 (s_ : List (Int × (List Int) × (List Int) × Int × (List (List Int)))) (o0 : (List Int) × (List (Int × (List Int) × (List Int) × Int × (List (List Int))))) : Option Bool :=
  (slices_IndexFunc_impl_Rule__impl_ModelValid_1 s_ o0).bind fun r1_ =>
  some (decide ((0:Int) ≤ r1_))

/-- impl.ModelValid -/
noncomputable def impl_ModelValid_l1 (m : (List Int) × (List (Int × (List Int) × (List Int) × Int × (List (List Int))))) : Int × Int → Option ((Int × Int) ⊕ Bool) := fun (count, i) =>
  cond (decide (i < (m.1.length:Int))) (
    rq (0 ≤ i ∧ i < m.1.length) <|
    (impl_within (m.1.getD i.toNat 0) (0:Int) (3:Int)).bind fun r2_ =>
    cond (!r2_) (
      some (.inr false)) (
      rq (i64 ((m.1.getD i.toNat 0) + (1:Int))) <|
      rq (i64 (count + ((m.1.getD i.toNat 0) + (1:Int)))) <|
      rq (i64 (i + (1:Int))) <|
      some (.inl ((count + ((m.1.getD i.toNat 0) + (1:Int))), (i + (1:Int)))))) (
    cond (decide (count ≤ (12:Int))) (
      (slices_ContainsFunc_impl_Rule__impl_ModelValid_1 m.2 m).bind fun r3_ =>
      some (.inr (!r3_))) (
      some (.inr false)))

noncomputable def impl_ModelValid (m : (List Int) × (List (Int × (List Int) × (List Int) × Int × (List (List Int))))) : Option Bool :=
  (impl_within (m.1.length:Int) (1:Int) (5:Int)).bind fun r1_ =>
  cond (!r1_) (
    some false) (
    cond (decide ((8:Int) < (m.2.length:Int))) (
      some false) (
      loop (impl_ModelValid_l1 m) ((0:Int), (0:Int))))

/-- impl.DomainsValid -/
noncomputable def impl_DomainsValid_l1 (m : (List Int) × (List (Int × (List Int) × (List Int) × Int × (List (List Int))))) (d : List (List Bool)) : Int → Option (Int ⊕ Bool) := fun i =>
  cond (decide (i < (m.1.length:Int))) (
    rq (0 ≤ i ∧ i < m.1.length) <|
    rq (0 ≤ i ∧ i < d.length) <|
    rq (i64 ((m.1.getD i.toNat 0) + (1:Int))) <|
    cond (((d.getD i.toNat []).length:Int) != ((m.1.getD i.toNat 0) + (1:Int))) (
      some (.inr false)) (
      rq (i64 (i + (1:Int))) <|
      some (.inl (i + (1:Int))))) (
    some (.inr true))

noncomputable def impl_DomainsValid (m : (List Int) × (List (Int × (List Int) × (List Int) × Int × (List (List Int))))) (d : List (List Bool)) : Option Bool :=
  (impl_ModelValid m).bind fun r1_ =>
  cond (!r1_) (
    some false) (
    cond ((d.length:Int) != (m.1.length:Int)) (
      some false) (
      loop (impl_DomainsValid_l1 m d) (0:Int)))

/-- impl.isRule -/
noncomputable def impl_isRule (m : (List Int) × (List (Int × (List Int) × (List Int) × Int × (List (List Int))))) (rule : Int) : Option Bool :=
  rq (i64 ((m.2.length:Int) - (1:Int))) <|
  (impl_within rule (0:Int) ((m.2.length:Int) - (1:Int))).bind fun r1_ =>
  some r1_

/-- impl.MatchRule$1 -/
noncomputable def impl_MatchRule_1__RrrRs_l1 (o1 : List Int) (o2 : List (List Bool)) (o4 : List Int) (rec_ : (List Int) → (List (List Bool)) → (List Int) → Option (Bool × (List Int))) : Int × (List Int) → Option ((Int × (List Int)) ⊕ (Bool × (List Int))) := fun (i, i1) =>
  cond (decide (i < ((o2.getD (o1.getD (o4.length:Int).toNat 0).toNat []).length:Int))) (
    rq (0 ≤ i ∧ i < (o2.getD (o1.getD (o4.length:Int).toNat 0).toNat []).length) <|
    cond (!((o2.getD (o1.getD (o4.length:Int).toNat 0).toNat []).getD i.toNat false)) (
      rq (i64 (i + (1:Int))) <|
      some (.inl ((i + (1:Int)), i1))) (
      (slices_Contains_int i1 i).bind fun r3_ =>
      cond r3_ (
        rq (i64 (i + (1:Int))) <|
        some (.inl ((i + (1:Int)), i1))) (
        rq (i1.length + [i].length ≤ bound) <|
        (rec_ o1 o2 (i1 ++ [i])).bind fun r4_ =>
        cond r4_.1 (
          some (.inr (true, r4_.2))) (
          rq (i64 ((r4_.2.length:Int) - (1:Int))) <|
          rq (0 ≤ ((r4_.2.length:Int) - (1:Int)) ∧ ((r4_.2.length:Int) - (1:Int)) ≤ r4_.2.length) <|
          rq (i64 (i + (1:Int))) <|
          some (.inl ((i + (1:Int)), (r4_.2.take ((r4_.2.length:Int) - (1:Int)).toNat))))))) (
    some (.inr (false, i1)))

noncomputable def impl_MatchRule_1__RrrRs_rec (rec_ : (List Int) → (List (List Bool)) → (List Int) → Option (Bool × (List Int))) (o1 : List Int) (o2 : List (List Bool)) (o4 : List Int) : Option (Bool × (List Int)) :=
  cond ((o4.length:Int) == (o1.length:Int)) (
    some (true, o4)) (
    rq (0 ≤ (o4.length:Int) ∧ (o4.length:Int) < o1.length) <|
    rq (0 ≤ (o1.getD (o4.length:Int).toNat 0) ∧ (o1.getD (o4.length:Int).toNat 0) < o2.length) <|
    loop (impl_MatchRule_1__RrrRs_l1 o1 o2 o4 rec_) ((0:Int), o4))

/-- So many calls within calls. -/
noncomputable def impl_MatchRule_1__RrrRs : Nat → (List Int) → (List (List Bool)) → (List Int) → Option (Bool × (List Int))
  | 0 => fun _ _ _ => none
  | n_ + 1 => impl_MatchRule_1__RrrRs_rec (impl_MatchRule_1__RrrRs n_)

/-- impl.MatchRule$1 -/
noncomputable def impl_MatchRule_1__R0rrR_l1 (o1 : List Int) (o2 : List (List Bool)) : Int × (List Int) → Option ((Int × (List Int)) ⊕ (Bool × (List Int))) := fun (i, i1) =>
  cond (decide (i < ((o2.getD (o1.getD (0:Int).toNat 0).toNat []).length:Int))) (
    rq (0 ≤ i ∧ i < (o2.getD (o1.getD (0:Int).toNat 0).toNat []).length) <|
    cond (!((o2.getD (o1.getD (0:Int).toNat 0).toNat []).getD i.toNat false)) (
      rq (i64 (i + (1:Int))) <|
      some (.inl ((i + (1:Int)), i1))) (
      (slices_Contains_int i1 i).bind fun r3_ =>
      cond r3_ (
        rq (i64 (i + (1:Int))) <|
        some (.inl ((i + (1:Int)), i1))) (
        rq (i1.length + [i].length ≤ bound) <|
        (impl_MatchRule_1__RrrRs 64 o1 o2 (i1 ++ [i])).bind fun r4_ =>
        cond r4_.1 (
          some (.inr (true, r4_.2))) (
          rq (i64 ((r4_.2.length:Int) - (1:Int))) <|
          rq (0 ≤ ((r4_.2.length:Int) - (1:Int)) ∧ ((r4_.2.length:Int) - (1:Int)) ≤ r4_.2.length) <|
          rq (i64 (i + (1:Int))) <|
          some (.inl ((i + (1:Int)), (r4_.2.take ((r4_.2.length:Int) - (1:Int)).toNat))))))) (
    some (.inr (false, i1)))

noncomputable def impl_MatchRule_1__R0rrR (o1 : List Int) (o2 : List (List Bool)) : Option (Bool × (List Int)) :=
  cond ((0:Int) == (o1.length:Int)) (
    some (true, ([] : List Int))) (
    rq (0 ≤ (0:Int) ∧ (0:Int) < o1.length) <|
    rq (0 ≤ (o1.getD (0:Int).toNat 0) ∧ (o1.getD (0:Int).toNat 0) < o2.length) <|
    loop (impl_MatchRule_1__R0rrR_l1 o1 o2) ((0:Int), ([] : List Int)))

/-- impl.MatchRule -/
noncomputable def impl_MatchRule (m : (List Int) × (List (Int × (List Int) × (List Int) × Int × (List (List Int))))) (rule : Int) (d : List (List Bool)) : Option (Bool × (List Int)) :=
  (impl_DomainsValid m d).bind fun r1_ =>
  cond (!r1_) (
    some (false, ([] : List Int))) (
    (impl_isRule m rule).bind fun r2_ =>
    cond (!r2_) (
      some (false, ([] : List Int))) (
      rq (0 ≤ rule ∧ rule < m.2.length) <|
      (impl_MatchRule_1__R0rrR (m.2.getD rule.toNat (0, ([], ([], (0, []))))).2.1 d).bind fun r3_ =>
      cond (!r3_.1) (
        some (false, ([] : List Int))) (
        some (true, r3_.2))))

/-- laws.eqIntS -/
noncomputable def laws_eqIntS_l1 (a : List Int) (b : List Int) : Int → Option (Int ⊕ Bool) := fun i =>
  cond (decide (i < (a.length:Int))) (
    rq (0 ≤ i ∧ i < a.length) <|
    rq (0 ≤ i ∧ i < b.length) <|
    cond ((a.getD i.toNat 0) != (b.getD i.toNat 0)) (
      some (.inr false)) (
      rq (i64 (i + (1:Int))) <|
      some (.inl (i + (1:Int))))) (
    some (.inr true))

noncomputable def laws_eqIntS (a : List Int) (b : List Int) : Option Bool :=
  cond ((a.length:Int) != (b.length:Int)) (
    some false) (
    loop (laws_eqIntS_l1 a b) (0:Int))

/-- laws.eqIntSS -/
noncomputable def laws_eqIntSS_l1 (a : List (List Int)) (b : List (List Int)) : Int → Option (Int ⊕ Bool) := fun i =>
  cond (decide (i < (a.length:Int))) (
    rq (0 ≤ i ∧ i < a.length) <|
    rq (0 ≤ i ∧ i < b.length) <|
    (laws_eqIntS (a.getD i.toNat []) (b.getD i.toNat [])).bind fun r2_ =>
    cond (!r2_) (
      some (.inr false)) (
      rq (i64 (i + (1:Int))) <|
      some (.inl (i + (1:Int))))) (
    some (.inr true))

noncomputable def laws_eqIntSS (a : List (List Int)) (b : List (List Int)) : Option Bool :=
  cond ((a.length:Int) != (b.length:Int)) (
    some false) (
    loop (laws_eqIntSS_l1 a b) (0:Int))

/-- laws.eqRule -/
noncomputable def laws_eqRule (a : Int × (List Int) × (List Int) × Int × (List (List Int))) (b : Int × (List Int) × (List Int) × Int × (List (List Int))) : Option Bool :=
  cond (a.1 != b.1) (
    some false) (
    (laws_eqIntS a.2.1 b.2.1).bind fun r1_ =>
    cond (!r1_) (
      some false) (
      (laws_eqIntS a.2.2.1 b.2.2.1).bind fun r2_ =>
      cond (!r2_) (
        some false) (
        cond (a.2.2.2.1 != b.2.2.2.1) (
          some false) (
          (laws_eqIntSS a.2.2.2.2 b.2.2.2.2).bind fun r3_ =>
          cond (!r3_) (
            some false) (
            some true)))))

/-- laws.eqRuleS -/
noncomputable def laws_eqRuleS_l1 (a : List (Int × (List Int) × (List Int) × Int × (List (List Int)))) (b : List (Int × (List Int) × (List Int) × Int × (List (List Int)))) : Int → Option (Int ⊕ Bool) := fun i =>
  cond (decide (i < (a.length:Int))) (
    rq (0 ≤ i ∧ i < a.length) <|
    rq (0 ≤ i ∧ i < b.length) <|
    (laws_eqRule (a.getD i.toNat (0, ([], ([], (0, []))))) (b.getD i.toNat (0, ([], ([], (0, [])))))).bind fun r2_ =>
    cond (!r2_) (
      some (.inr false)) (
      rq (i64 (i + (1:Int))) <|
      some (.inl (i + (1:Int))))) (
    some (.inr true))

noncomputable def laws_eqRuleS (a : List (Int × (List Int) × (List Int) × Int × (List (List Int)))) (b : List (Int × (List Int) × (List Int) × Int × (List (List Int)))) : Option Bool :=
  cond ((a.length:Int) != (b.length:Int)) (
    some false) (
    loop (laws_eqRuleS_l1 a b) (0:Int))

/-- laws.eqModel -/
noncomputable def laws_eqModel (a : (List Int) × (List (Int × (List Int) × (List Int) × Int × (List (List Int))))) (b : (List Int) × (List (Int × (List Int) × (List Int) × Int × (List (List Int))))) : Option Bool :=
  (laws_eqIntS a.1 b.1).bind fun r1_ =>
  cond (!r1_) (
    some false) (
    (laws_eqRuleS a.2 b.2).bind fun r2_ =>
    cond (!r2_) (
      some false) (
      some true))

/-- laws.eqBoolS -/
noncomputable def laws_eqBoolS_l1 (a : List Bool) (b : List Bool) : Int → Option (Int ⊕ Bool) := fun i =>
  cond (decide (i < (a.length:Int))) (
    rq (0 ≤ i ∧ i < a.length) <|
    rq (0 ≤ i ∧ i < b.length) <|
    cond ((a.getD i.toNat false) != (b.getD i.toNat false)) (
      some (.inr false)) (
      rq (i64 (i + (1:Int))) <|
      some (.inl (i + (1:Int))))) (
    some (.inr true))

noncomputable def laws_eqBoolS (a : List Bool) (b : List Bool) : Option Bool :=
  cond ((a.length:Int) != (b.length:Int)) (
    some false) (
    loop (laws_eqBoolS_l1 a b) (0:Int))

/-- laws.eqBoolSS -/
noncomputable def laws_eqBoolSS_l1 (a : List (List Bool)) (b : List (List Bool)) : Int → Option (Int ⊕ Bool) := fun i =>
  cond (decide (i < (a.length:Int))) (
    rq (0 ≤ i ∧ i < a.length) <|
    rq (0 ≤ i ∧ i < b.length) <|
    (laws_eqBoolS (a.getD i.toNat []) (b.getD i.toNat [])).bind fun r2_ =>
    cond (!r2_) (
      some (.inr false)) (
      rq (i64 (i + (1:Int))) <|
      some (.inl (i + (1:Int))))) (
    some (.inr true))

noncomputable def laws_eqBoolSS (a : List (List Bool)) (b : List (List Bool)) : Option Bool :=
  cond ((a.length:Int) != (b.length:Int)) (
    some false) (
    loop (laws_eqBoolSS_l1 a b) (0:Int))

/-- laws.markIntS -/
noncomputable def laws_markIntS_l1 : Int × Int × (List Int) → Option ((Int × Int × (List Int)) ⊕ (Int × (List Int))) := fun (k_1, i, a1) =>
  cond (decide (i < (a1.length:Int))) (
    rq (0 ≤ i ∧ i < a1.length) <|
    rq (i64 (k_1 + (1:Int))) <|
    rq (i64 (i + (1:Int))) <|
    some (.inl ((k_1 + (1:Int)), (i + (1:Int)), (a1.set i.toNat k_1)))) (
    some (.inr (k_1, a1)))

noncomputable def laws_markIntS (k_ : Int) (a : List Int) : Option (Int × (List Int)) :=
  loop (laws_markIntS_l1) (k_, (0:Int), a)

/-- laws.markIntS -/
noncomputable def laws_markIntS__d_l1 : Int × Int × (List Int) → Option ((Int × Int × (List Int)) ⊕ (Int × (List Int))) := fun (k_1, i, a1) =>
  cond (decide (i < (a1.length:Int))) (
    rq (0 ≤ i ∧ i < a1.length) <|
    rq (i64 (k_1 + (1:Int))) <|
    rq (i64 (i + (1:Int))) <|
    some (.inl ((k_1 + (1:Int)), (i + (1:Int)), (a1.set i.toNat k_1)))) (
    some (.inr (k_1, a1)))

noncomputable def laws_markIntS__d (k_ : Int) (a : List Int) : Option (Int × (List Int)) :=
  loop (laws_markIntS__d_l1) (k_, (0:Int), a)

/-- laws.markIntSS -/
noncomputable def laws_markIntSS_l1 : Int × Int × (List (List Int)) → Option ((Int × Int × (List (List Int))) ⊕ (Int × (List (List Int)))) := fun (k_1, i, a1) =>
  cond (decide (i < (a1.length:Int))) (
    rq (0 ≤ i ∧ i < a1.length) <|
    (laws_markIntS__d k_1 (a1.getD i.toNat [])).bind fun r2_ =>
    rq (i64 (i + (1:Int))) <|
    some (.inl (r2_.1, (i + (1:Int)), (a1.set i.toNat r2_.2)))) (
    some (.inr (k_1, a1)))

noncomputable def laws_markIntSS (k_ : Int) (a : List (List Int)) : Option (Int × (List (List Int))) :=
  loop (laws_markIntSS_l1) (k_, (0:Int), a)

/-- laws.markRuleS -/
noncomputable def laws_markRuleS_j2 (i : Int) (k_3 : Int) : (List (Int × (List Int) × (List Int) × Int × (List (List Int)))) → Option ((Int × Int × (List (Int × (List Int) × (List Int) × Int × (List (List Int))))) ⊕ (Int × (List (Int × (List Int) × (List Int) × Int × (List (List Int)))))) := fun a5 =>
  rq (i64 (k_3 + (1:Int))) <|
  rq (0 ≤ i ∧ i < a5.length) <|
  (laws_markIntSS (k_3 + (1:Int)) (a5.getD i.toNat (0, ([], ([], (0, []))))).2.2.2.2).bind fun r6_ =>
  rq (i64 (i + (1:Int))) <|
  some (.inl (r6_.1, (i + (1:Int)), (a5.set i.toNat ((a5.getD i.toNat (0, ([], ([], (0, []))))).1, ((a5.getD i.toNat (0, ([], ([], (0, []))))).2.1, ((a5.getD i.toNat (0, ([], ([], (0, []))))).2.2.1, ((a5.getD i.toNat (0, ([], ([], (0, []))))).2.2.2.1, r6_.2)))))))

noncomputable def laws_markRuleS_j1 (i : Int) : Int × (List (Int × (List Int) × (List Int) × Int × (List (List Int)))) → Option ((Int × Int × (List (Int × (List Int) × (List Int) × Int × (List (List Int))))) ⊕ (Int × (List (Int × (List Int) × (List Int) × Int × (List (List Int)))))) := fun (k_3, a4) =>
  rq (0 ≤ i ∧ i < a4.length) <|
  laws_markRuleS_j2 i k_3 (a4.set i.toNat ((a4.getD i.toNat (0, ([], ([], (0, []))))).1, ((a4.getD i.toNat (0, ([], ([], (0, []))))).2.1, ((a4.getD i.toNat (0, ([], ([], (0, []))))).2.2.1, (k_3, (a4.getD i.toNat (0, ([], ([], (0, []))))).2.2.2.2)))))

noncomputable def laws_markRuleS_l1 : Int × Int × (List (Int × (List Int) × (List Int) × Int × (List (List Int)))) → Option ((Int × Int × (List (Int × (List Int) × (List Int) × Int × (List (List Int))))) ⊕ (Int × (List (Int × (List Int) × (List Int) × Int × (List (List Int)))))) := fun (k_1, i, a3) =>
  cond (decide (i < (a3.length:Int))) (
    rq (0 ≤ i ∧ i < a3.length) <|
    rq (i64 (k_1 + (1:Int))) <|
    rq (0 ≤ i ∧ i < (a3.set i.toNat (k_1, (a3.getD i.toNat (0, ([], ([], (0, []))))).2)).length) <|
    (laws_markIntS__d (k_1 + (1:Int)) ((a3.set i.toNat (k_1, (a3.getD i.toNat (0, ([], ([], (0, []))))).2)).getD i.toNat (0, ([], ([], (0, []))))).2.1).bind fun r4_ =>
    rq (0 ≤ i ∧ i < (a3.set i.toNat (k_1, (a3.getD i.toNat (0, ([], ([], (0, []))))).2)).length) <|
    (laws_markIntS__d r4_.1 (((a3.set i.toNat (k_1, (a3.getD i.toNat (0, ([], ([], (0, []))))).2)).set i.toNat (((a3.set i.toNat (k_1, (a3.getD i.toNat (0, ([], ([], (0, []))))).2)).getD i.toNat (0, ([], ([], (0, []))))).1, (r4_.2, ((a3.set i.toNat (k_1, (a3.getD i.toNat (0, ([], ([], (0, []))))).2)).getD i.toNat (0, ([], ([], (0, []))))).2.2))).getD i.toNat (0, ([], ([], (0, []))))).2.2.1).bind fun r5_ =>
    laws_markRuleS_j1 i (r5_.1, (((a3.set i.toNat (k_1, (a3.getD i.toNat (0, ([], ([], (0, []))))).2)).set i.toNat (((a3.set i.toNat (k_1, (a3.getD i.toNat (0, ([], ([], (0, []))))).2)).getD i.toNat (0, ([], ([], (0, []))))).1, (r4_.2, ((a3.set i.toNat (k_1, (a3.getD i.toNat (0, ([], ([], (0, []))))).2)).getD i.toNat (0, ([], ([], (0, []))))).2.2))).set i.toNat ((((a3.set i.toNat (k_1, (a3.getD i.toNat (0, ([], ([], (0, []))))).2)).set i.toNat (((a3.set i.toNat (k_1, (a3.getD i.toNat (0, ([], ([], (0, []))))).2)).getD i.toNat (0, ([], ([], (0, []))))).1, (r4_.2, ((a3.set i.toNat (k_1, (a3.getD i.toNat (0, ([], ([], (0, []))))).2)).getD i.toNat (0, ([], ([], (0, []))))).2.2))).getD i.toNat (0, ([], ([], (0, []))))).1, ((((a3.set i.toNat (k_1, (a3.getD i.toNat (0, ([], ([], (0, []))))).2)).set i.toNat (((a3.set i.toNat (k_1, (a3.getD i.toNat (0, ([], ([], (0, []))))).2)).getD i.toNat (0, ([], ([], (0, []))))).1, (r4_.2, ((a3.set i.toNat (k_1, (a3.getD i.toNat (0, ([], ([], (0, []))))).2)).getD i.toNat (0, ([], ([], (0, []))))).2.2))).getD i.toNat (0, ([], ([], (0, []))))).2.1, (r5_.2, (((a3.set i.toNat (k_1, (a3.getD i.toNat (0, ([], ([], (0, []))))).2)).set i.toNat (((a3.set i.toNat (k_1, (a3.getD i.toNat (0, ([], ([], (0, []))))).2)).getD i.toNat (0, ([], ([], (0, []))))).1, (r4_.2, ((a3.set i.toNat (k_1, (a3.getD i.toNat (0, ([], ([], (0, []))))).2)).getD i.toNat (0, ([], ([], (0, []))))).2.2))).getD i.toNat (0, ([], ([], (0, []))))).2.2.2)))))) (
    some (.inr (k_1, a3)))

noncomputable def laws_markRuleS (k_ : Int) (a : List (Int × (List Int) × (List Int) × Int × (List (List Int)))) : Option (Int × (List (Int × (List Int) × (List Int) × Int × (List (List Int))))) :=
  loop (laws_markRuleS_l1) (k_, (0:Int), a)

/-- laws.markModel -/
noncomputable def laws_markModel (k_ : Int) (o0 : List Int) (o1 : List (Int × (List Int) × (List Int) × Int × (List (List Int)))) : Option (Int × (List Int) × (List (Int × (List Int) × (List Int) × Int × (List (List Int))))) :=
  (laws_markIntS k_ o0).bind fun r1_ =>
  (laws_markRuleS r1_.1 o1).bind fun r2_ =>
  some (r2_.1, r1_.2, r2_.2)

/-- laws.markBoolS -/
noncomputable def laws_markBoolS__d_l1 : Int × Int × (List Bool) → Option ((Int × Int × (List Bool)) ⊕ (Int × (List Bool))) := fun (k_1, i, a1) =>
  cond (decide (i < (a1.length:Int))) (
    rq (1 ≤ (3:Int) ∧ 0 ≤ k_1) <|
    rq (0 ≤ i ∧ i < a1.length) <|
    rq (i64 (k_1 + (1:Int))) <|
    rq (i64 (i + (1:Int))) <|
    some (.inl ((k_1 + (1:Int)), (i + (1:Int)), (a1.set i.toNat ((k_1 % (3:Int)) == (0:Int)))))) (
    some (.inr (k_1, a1)))

noncomputable def laws_markBoolS__d (k_ : Int) (a : List Bool) : Option (Int × (List Bool)) :=
  loop (laws_markBoolS__d_l1) (k_, (0:Int), a)

/-- laws.markBoolSS -/
noncomputable def laws_markBoolSS_l1 : Int × Int × (List (List Bool)) → Option ((Int × Int × (List (List Bool))) ⊕ (Int × (List (List Bool)))) := fun (k_1, i, a1) =>
  cond (decide (i < (a1.length:Int))) (
    rq (0 ≤ i ∧ i < a1.length) <|
    (laws_markBoolS__d k_1 (a1.getD i.toNat [])).bind fun r2_ =>
    rq (i64 (i + (1:Int))) <|
    some (.inl (r2_.1, (i + (1:Int)), (a1.set i.toNat r2_.2)))) (
    some (.inr (k_1, a1)))

noncomputable def laws_markBoolSS (k_ : Int) (a : List (List Bool)) : Option (Int × (List (List Bool))) :=
  loop (laws_markBoolSS_l1) (k_, (0:Int), a)

/-- laws.heldIntS -/
noncomputable def laws_heldIntS_l1 (a : List Int) : Int × Int → Option ((Int × Int) ⊕ Int) := fun (k_1, i) =>
  cond (decide (i < (a.length:Int))) (
    rq (0 ≤ i ∧ i < a.length) <|
    cond ((a.getD i.toNat 0) != k_1) (
      some (.inr (-1:Int))) (
      rq (i64 (k_1 + (1:Int))) <|
      rq (i64 (i + (1:Int))) <|
      some (.inl ((k_1 + (1:Int)), (i + (1:Int)))))) (
    some (.inr k_1))

noncomputable def laws_heldIntS (a : List Int) (k_ : Int) : Option Int :=
  loop (laws_heldIntS_l1 a) (k_, (0:Int))

/-- laws.FnExactMatchRule -/
noncomputable def laws_FnExactMatchRule_j1 (a0 : (List Int) × (List (Int × (List Int) × (List Int) × Int × (List (List Int))))) (a1 : Int) (a2 : List (List Bool)) (r5_ : Bool × (List Int)) (r6_ : (List Int) × (List (Int × (List Int) × (List Int) × Int × (List (List Int))))) (r7_ : (List (List Bool))) (r8_ : Bool × (List Int)) : Unit → Option Bool := fun _ =>
  (laws_toBoolSS a2).bind fun r14_ =>
  (laws_eqBoolSS r7_ r14_).bind fun r15_ =>
  cond (!r15_) (
    some false) (
    (laws_markModel (1:Int) r6_.1 r6_.2).bind fun r16_ =>
    (laws_markBoolSS r16_.1 r7_).bind fun r17_ =>
    cond (decide (r17_.1 < (0:Int))) (
      some false) (
      (laws_eqIntS r8_.2 r5_.2).bind fun r18_ =>
      cond (!r18_) (
        some false) (
        cond (r8_.1 != r5_.1) (
          some false) (
          (laws_markIntS (1:Int) r8_.2).bind fun r19_ =>
          (laws_heldIntS r19_.2 (1:Int)).bind fun r20_ =>
          cond (decide (r20_ < (0:Int))) (
            some false) (
            cond (r20_ != r19_.1) (
              some false) (
              (laws_toModel a0).bind fun r21_ =>
              (laws_toBoolSS a2).bind fun r22_ =>
              (impl_MatchRule r21_ a1 r22_).bind fun r23_ =>
              (laws_eqIntS r23_.2 r5_.2).bind fun r24_ =>
              cond (!r24_) (
                some false) (
                cond (r23_.1 != r5_.1) (
                  some false) (
                  (laws_heldIntS r19_.2 (1:Int)).bind fun r25_ =>
                  cond (decide (r25_ < (0:Int))) (
                    some false) (
                    cond (r25_ != r19_.1) (
                      some false) (
                      some true))))))))))

noncomputable def laws_FnExactMatchRule (a0 : (List Int) × (List (Int × (List Int) × (List Int) × Int × (List (List Int))))) (a1 : Int) (a2 : List (List Bool)) : Option Bool :=
  (laws_szModel a0 (1048576:Int)).bind fun r1_ =>
  cond (decide (r1_ < (0:Int))) (
    some true) (
    (laws_szBoolSS a2 r1_).bind fun r2_ =>
    cond (decide (r2_ < (0:Int))) (
      some true) (
      (laws_toModel a0).bind fun r3_ =>
      (laws_toBoolSS a2).bind fun r4_ =>
      (spec_MatchRule r3_ a1 r4_).bind fun r5_ =>
      (laws_toModel a0).bind fun r6_ =>
      (laws_toBoolSS a2).bind fun r7_ =>
      (impl_MatchRule r6_ a1 r7_).bind fun r8_ =>
      (laws_eqIntS r8_.2 r5_.2).bind fun r9_ =>
      cond (!r9_) (
        some false) (
        cond (r8_.1 != r5_.1) (
          some false) (
          (laws_toModel a0).bind fun r12_ =>
          (laws_eqModel r6_ r12_).bind fun r13_ =>
          cond (!r13_) (
            some false) (
            laws_FnExactMatchRule_j1 a0 a1 a2 r5_ r6_ r7_ r8_ ())))))

end Go.AE.Y
