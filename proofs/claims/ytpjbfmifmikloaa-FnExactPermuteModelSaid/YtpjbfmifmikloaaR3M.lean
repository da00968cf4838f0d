/-
  Models of the functions: what each computes, as a Lean function into Option. Definitions alone.
-/
import Derived.Test.YtpjbfmifmikloaaAEx3
namespace Go.AE.Y
open Go Go.AE
set_option linter.unusedVariables false

/-- laws.szIntS -/
noncomputable def laws_szIntS (a : List Int) (left : Int) : Option Int :=
  rq (i64 (left - (a.length:Int))) <|
  cond (decide ((left - (a.length:Int)) < (0:Int))) (
    some (-1:Int)) (
    some (left - (a.length:Int)))

/-- laws.szIntSS -/
noncomputable def laws_szIntSS_l1 (a : List (List Int)) : Int × Int → Option ((Int × Int) ⊕ Int) := fun (left1, i) =>
  cond (decide (i < (a.length:Int))) (
    rq (0 ≤ i ∧ i < a.length) <|
    (laws_szIntS (a.getD i.toNat []) left1).bind fun r1_ =>
    cond (decide (r1_ < (0:Int))) (
      some (.inr (-1:Int))) (
      rq (i64 (i + (1:Int))) <|
      some (.inl (r1_, (i + (1:Int)))))) (
    some (.inr left1))

noncomputable def laws_szIntSS (a : List (List Int)) (left : Int) : Option Int :=
  rq (i64 (left - (a.length:Int))) <|
  cond (decide ((left - (a.length:Int)) < (0:Int))) (
    some (-1:Int)) (
    loop (laws_szIntSS_l1 a) ((left - (a.length:Int)), (0:Int)))

/-- laws.szRule -/
noncomputable def laws_szRule (a : Int × (List Int) × (List Int) × Int × (List (List Int))) (left : Int) : Option Int :=
  (laws_szIntS a.2.1 left).bind fun r1_ =>
  cond (decide (r1_ < (0:Int))) (
    some (-1:Int)) (
    (laws_szIntS a.2.2.1 r1_).bind fun r2_ =>
    cond (decide (r2_ < (0:Int))) (
      some (-1:Int)) (
      (laws_szIntSS a.2.2.2.2 r2_).bind fun r3_ =>
      cond (decide (r3_ < (0:Int))) (
        some (-1:Int)) (
        some r3_)))

/-- laws.szRuleS -/
noncomputable def laws_szRuleS_l1 (a : List (Int × (List Int) × (List Int) × Int × (List (List Int)))) : Int × Int → Option ((Int × Int) ⊕ Int) := fun (left1, i) =>
  cond (decide (i < (a.length:Int))) (
    rq (0 ≤ i ∧ i < a.length) <|
    (laws_szRule (a.getD i.toNat (0, ([], ([], (0, []))))) left1).bind fun r1_ =>
    cond (decide (r1_ < (0:Int))) (
      some (.inr (-1:Int))) (
      rq (i64 (i + (1:Int))) <|
      some (.inl (r1_, (i + (1:Int)))))) (
    some (.inr left1))

noncomputable def laws_szRuleS (a : List (Int × (List Int) × (List Int) × Int × (List (List Int)))) (left : Int) : Option Int :=
  rq (i64 (left - (a.length:Int))) <|
  cond (decide ((left - (a.length:Int)) < (0:Int))) (
    some (-1:Int)) (
    loop (laws_szRuleS_l1 a) ((left - (a.length:Int)), (0:Int)))

/-- laws.szModel -/
noncomputable def laws_szModel (a : (List Int) × (List (Int × (List Int) × (List Int) × Int × (List (List Int))))) (left : Int) : Option Int :=
  (laws_szIntS a.1 left).bind fun r1_ =>
  cond (decide (r1_ < (0:Int))) (
    some (-1:Int)) (
    (laws_szRuleS a.2 r1_).bind fun r2_ =>
    cond (decide (r2_ < (0:Int))) (
      some (-1:Int)) (
      some r2_))

/-- laws.toIntS -/
noncomputable def laws_toIntS_l1 (a : List Int) : Int × (List Int) → Option ((Int × (List Int)) ⊕ (List Int)) := fun (i, out) =>
  cond (decide (i < (a.length:Int))) (
    rq (0 ≤ i ∧ i < a.length) <|
    rq (0 ≤ i ∧ i < out.length) <|
    rq (i64 (i + (1:Int))) <|
    some (.inl ((i + (1:Int)), (out.set i.toNat (a.getD i.toNat 0))))) (
    some (.inr out))

noncomputable def laws_toIntS (a : List Int) : Option (List Int) :=
  rq (0 ≤ (a.length:Int) ∧ (a.length:Int) ≤ bound ∧ (a.length:Int) = (a.length:Int)) <|
  loop (laws_toIntS_l1 a) ((0:Int), (List.replicate (a.length:Int).toNat 0))

/-- laws.toIntSS -/
noncomputable def laws_toIntSS_l1 (a : List (List Int)) : Int × (List (List Int)) → Option ((Int × (List (List Int))) ⊕ (List (List Int))) := fun (i, out) =>
  cond (decide (i < (a.length:Int))) (
    rq (0 ≤ i ∧ i < a.length) <|
    (laws_toIntS (a.getD i.toNat [])).bind fun r2_ =>
    rq (0 ≤ i ∧ i < out.length) <|
    rq (i64 (i + (1:Int))) <|
    some (.inl ((i + (1:Int)), (out.set i.toNat r2_)))) (
    some (.inr out))

noncomputable def laws_toIntSS (a : List (List Int)) : Option (List (List Int)) :=
  rq (0 ≤ (a.length:Int) ∧ (a.length:Int) ≤ bound ∧ (a.length:Int) = (a.length:Int)) <|
  loop (laws_toIntSS_l1 a) ((0:Int), (List.replicate (a.length:Int).toNat []))

/-- laws.toRule -/
noncomputable def laws_toRule (a : Int × (List Int) × (List Int) × Int × (List (List Int))) : Option (Int × Int × (List Int) × (List Int) × (List (List Int))) :=
  (laws_toIntS a.2.1).bind fun r1_ =>
  (laws_toIntS a.2.2.1).bind fun r2_ =>
  (laws_toIntSS a.2.2.2.2).bind fun r3_ =>
  some (a.1, a.2.2.2.1, r1_, r2_, r3_)

/-- laws.toRuleS -/
noncomputable def laws_toRuleS_l1 (a : List (Int × (List Int) × (List Int) × Int × (List (List Int)))) : Int × (List (Int × (List Int) × (List Int) × Int × (List (List Int)))) → Option ((Int × (List (Int × (List Int) × (List Int) × Int × (List (List Int))))) ⊕ ((List (Int × (List Int) × (List Int) × Int × (List (List Int)))))) := fun (i, out) =>
  cond (decide (i < (a.length:Int))) (
    rq (0 ≤ i ∧ i < a.length) <|
    (laws_toRule (a.getD i.toNat (0, ([], ([], (0, [])))))).bind fun r2_ =>
    rq (0 ≤ i ∧ i < out.length) <|
    rq (i64 (i + (1:Int))) <|
    some (.inl ((i + (1:Int)), (out.set i.toNat (r2_.1, (r2_.2.2.1, (r2_.2.2.2.1, (r2_.2.1, r2_.2.2.2.2)))))))) (
    some (.inr out))

noncomputable def laws_toRuleS (a : List (Int × (List Int) × (List Int) × Int × (List (List Int)))) : Option ((List (Int × (List Int) × (List Int) × Int × (List (List Int))))) :=
  rq (0 ≤ (a.length:Int) ∧ (a.length:Int) ≤ bound ∧ (a.length:Int) = (a.length:Int)) <|
  loop (laws_toRuleS_l1 a) ((0:Int), (List.replicate (a.length:Int).toNat (0, ([], ([], (0, []))))))

/-- laws.toModel -/
noncomputable def laws_toModel (a : (List Int) × (List (Int × (List Int) × (List Int) × Int × (List (List Int))))) : Option ((List Int) × (List (Int × (List Int) × (List Int) × Int × (List (List Int))))) :=
  (laws_toIntS a.1).bind fun r1_ =>
  (laws_toRuleS a.2).bind fun r2_ =>
  some (r1_, r2_)

/-- spec.l6Vars -/
noncomputable def spec_l6Vars_l2 (list_ : List Int) (i : Int) : Int → Option (Int ⊕ (Int ⊕ Bool)) := fun k_ =>
  cond (decide (k_ < i)) (
    rq (0 ≤ k_ ∧ k_ < list_.length) <|
    rq (0 ≤ i ∧ i < list_.length) <|
    cond ((list_.getD k_.toNat 0) == (list_.getD i.toNat 0)) (
      some (.inr (.inr false))) (
      rq (i64 (k_ + (1:Int))) <|
      some (.inl (k_ + (1:Int))))) (
    rq (i64 (i + (1:Int))) <|
    some (.inr (.inl (i + (1:Int)))))

noncomputable def spec_l6Vars_l1 (m : (List Int) × (List (Int × (List Int) × (List Int) × Int × (List (List Int))))) (list_ : List Int) : Int → Option (Int ⊕ Bool) := fun i =>
  cond (decide (i < (list_.length:Int))) (
    rq (0 ≤ i ∧ i < list_.length) <|
    cond (decide ((list_.getD i.toNat 0) < (0:Int))) (
      some (.inr false)) (
      rq (0 ≤ i ∧ i < list_.length) <|
      cond (decide ((m.1.length:Int) ≤ (list_.getD i.toNat 0))) (
        some (.inr false)) (
        loop (spec_l6Vars_l2 list_ i) (0:Int)))) (
    some (.inr (decide ((1:Int) ≤ (list_.length:Int)))))

noncomputable def spec_l6Vars (m : (List Int) × (List (Int × (List Int) × (List Int) × Int × (List (List Int))))) (list_ : List Int) : Option Bool :=
  loop (spec_l6Vars_l1 m list_) (0:Int)

/-- spec.l6Linear -/
noncomputable def spec_l6Linear_l1 (r_ : Int × (List Int) × (List Int) × Int × (List (List Int))) : Int → Option (Int ⊕ Bool) := fun i =>
  cond (decide (i < (r_.2.2.1.length:Int))) (
    rq (0 ≤ i ∧ i < r_.2.2.1.length) <|
    cond (decide ((r_.2.2.1.getD i.toNat 0) < (-9:Int))) (
      some (.inr false)) (
      rq (0 ≤ i ∧ i < r_.2.2.1.length) <|
      cond (decide ((9:Int) < (r_.2.2.1.getD i.toNat 0))) (
        some (.inr false)) (
        rq (0 ≤ i ∧ i < r_.2.2.1.length) <|
        cond ((r_.2.2.1.getD i.toNat 0) == (0:Int)) (
          some (.inr false)) (
          rq (i64 (i + (1:Int))) <|
          some (.inl (i + (1:Int))))))) (
    cond ((r_.2.2.1.length:Int) == (r_.2.1.length:Int)) (
      cond (decide ((-1000:Int) ≤ r_.2.2.2.1)) (
        some (.inr (decide (r_.2.2.2.1 ≤ (1000:Int))))) (
        some (.inr false))) (
      some (.inr false)))

noncomputable def spec_l6Linear (r_ : Int × (List Int) × (List Int) × Int × (List (List Int))) : Option Bool :=
  loop (spec_l6Linear_l1 r_) (0:Int)

/-- spec.l6Table -/
noncomputable def spec_l6Table_l2 (r_ : Int × (List Int) × (List Int) × Int × (List (List Int))) (i : Int) : Int → Option (Int ⊕ (Int ⊕ Bool)) := fun k_ =>
  rq (0 ≤ i ∧ i < r_.2.2.2.2.length) <|
  cond (decide (k_ < ((r_.2.2.2.2.getD i.toNat []).length:Int))) (
    rq (0 ≤ i ∧ i < r_.2.2.2.2.length) <|
    rq (0 ≤ k_ ∧ k_ < (r_.2.2.2.2.getD i.toNat []).length) <|
    cond (decide (((r_.2.2.2.2.getD i.toNat []).getD k_.toNat 0) < (0:Int))) (
      some (.inr (.inr false))) (
      rq (0 ≤ i ∧ i < r_.2.2.2.2.length) <|
      rq (0 ≤ k_ ∧ k_ < (r_.2.2.2.2.getD i.toNat []).length) <|
      cond (decide ((3:Int) < ((r_.2.2.2.2.getD i.toNat []).getD k_.toNat 0))) (
        some (.inr (.inr false))) (
        rq (i64 (k_ + (1:Int))) <|
        some (.inl (k_ + (1:Int)))))) (
    rq (i64 (i + (1:Int))) <|
    some (.inr (.inl (i + (1:Int)))))

noncomputable def spec_l6Table_l1 (r_ : Int × (List Int) × (List Int) × Int × (List (List Int))) : Int → Option (Int ⊕ Bool) := fun i =>
  cond (decide (i < (r_.2.2.2.2.length:Int))) (
    rq (0 ≤ i ∧ i < r_.2.2.2.2.length) <|
    cond (((r_.2.2.2.2.getD i.toNat []).length:Int) != (r_.2.1.length:Int)) (
      some (.inr false)) (
      loop (spec_l6Table_l2 r_ i) (0:Int))) (
    some (.inr (decide ((r_.2.2.2.2.length:Int) ≤ (8:Int)))))

noncomputable def spec_l6Table (r_ : Int × (List Int) × (List Int) × Int × (List (List Int))) : Option Bool :=
  loop (spec_l6Table_l1 r_) (0:Int)

/-- spec.l6Rule -/
noncomputable def spec_l6Rule_j1 (r_ : Int × (List Int) × (List Int) × Int × (List (List Int))) : Unit → Option Bool := fun _ =>
  cond (r_.1 == (1:Int)) (
    (spec_l6Linear r_).bind fun r2_ =>
    some r2_) (
    cond (r_.1 == (2:Int)) (
      some true) (
      cond (r_.1 == (3:Int)) (
        (spec_l6Table r_).bind fun r3_ =>
        some r3_) (
        cond (r_.1 == (4:Int)) (
          some ((r_.2.1.length:Int) == (2:Int))) (
          some false))))

noncomputable def spec_l6Rule (m : (List Int) × (List (Int × (List Int) × (List Int) × Int × (List (List Int))))) (r_ : Int × (List Int) × (List Int) × Int × (List (List Int))) : Option Bool :=
  (spec_l6Vars m r_.2.1).bind fun r1_ =>
  cond (!r1_) (
    some false) (
    cond (r_.1 != (1:Int)) (
      cond ((r_.2.2.1.length:Int) != (0:Int)) (
        some false) (
        cond (r_.2.2.2.1 != (0:Int)) (
          some false) (
          cond (r_.1 != (3:Int)) (
            cond ((r_.2.2.2.2.length:Int) != (0:Int)) (
              some false) (
              spec_l6Rule_j1 r_ ())) (
            spec_l6Rule_j1 r_ ())))) (
      cond (r_.1 != (3:Int)) (
        cond ((r_.2.2.2.2.length:Int) != (0:Int)) (
          some false) (
          spec_l6Rule_j1 r_ ())) (
        spec_l6Rule_j1 r_ ())))

/-- spec.ModelValid -/
noncomputable def spec_ModelValid_l1 (a0 : (List Int) × (List (Int × (List Int) × (List Int) × Int × (List (List Int))))) : Int → Option (Int ⊕ Bool) := fun i3 =>
  cond (decide (i3 < (a0.2.length:Int))) (
    rq (0 ≤ i3 ∧ i3 < a0.2.length) <|
    (spec_l6Rule a0 (a0.2.getD i3.toNat (0, ([], ([], (0, [])))))).bind fun r2_ =>
    cond (!r2_) (
      some (.inr false)) (
      rq (i64 (i3 + (1:Int))) <|
      some (.inl (i3 + (1:Int))))) (
    some (.inr true))

noncomputable def spec_ModelValid_j1 (a0 : (List Int) × (List (Int × (List Int) × (List Int) × Int × (List (List Int))))) : Int → Option Bool := fun i2 =>
  cond (decide ((a0.1.length:Int) < (1:Int))) (
    some false) (
    cond (decide ((5:Int) < (a0.1.length:Int))) (
      some false) (
      cond (decide ((12:Int) < i2)) (
        some false) (
        cond (decide ((8:Int) < (a0.2.length:Int))) (
          some false) (
          loop (spec_ModelValid_l1 a0) (0:Int)))))

noncomputable def spec_ModelValid_l2 (a0 : (List Int) × (List (Int × (List Int) × (List Int) × Int × (List (List Int))))) : Int × Int → Option ((Int × Int) ⊕ Bool) := fun (i, i1) =>
  cond (decide (i1 < (a0.1.length:Int))) (
    cond (decide (i1 < (5:Int))) (
      rq (0 ≤ i1 ∧ i1 < a0.1.length) <|
      cond (decide ((a0.1.getD i1.toNat 0) < (0:Int))) (
        some (.inr false)) (
        rq (0 ≤ i1 ∧ i1 < a0.1.length) <|
        cond (decide ((3:Int) < (a0.1.getD i1.toNat 0))) (
          some (.inr false)) (
          rq (0 ≤ i1 ∧ i1 < a0.1.length) <|
          rq (i64 (i + (a0.1.getD i1.toNat 0))) <|
          rq (i64 ((i + (a0.1.getD i1.toNat 0)) + (1:Int))) <|
          rq (i64 (i1 + (1:Int))) <|
          some (.inl (((i + (a0.1.getD i1.toNat 0)) + (1:Int)), (i1 + (1:Int))))))) (
      up (spec_ModelValid_j1 a0 i))) (
    up (spec_ModelValid_j1 a0 i))

noncomputable def spec_ModelValid (a0 : (List Int) × (List (Int × (List Int) × (List Int) × Int × (List (List Int))))) : Option Bool :=
  loop (spec_ModelValid_l2 a0) ((0:Int), (0:Int))

/-- spec.PermValid -/
noncomputable def spec_PermValid_l1 (m : (List Int) × (List (Int × (List Int) × (List Int) × Int × (List (List Int))))) (perm : List Int) : Int → Option (Int ⊕ Bool) := fun i =>
  cond (decide (i < (perm.length:Int))) (
    rq (0 ≤ i ∧ i < m.1.length) <|
    rq (0 ≤ i ∧ i < perm.length) <|
    rq (0 ≤ (perm.getD i.toNat 0) ∧ (perm.getD i.toNat 0) < m.1.length) <|
    cond ((m.1.getD i.toNat 0) != (m.1.getD (perm.getD i.toNat 0).toNat 0)) (
      some (.inr false)) (
      rq (i64 (i + (1:Int))) <|
      some (.inl (i + (1:Int))))) (
    some (.inr true))

noncomputable def spec_PermValid (m : (List Int) × (List (Int × (List Int) × (List Int) × Int × (List (List Int))))) (perm : List Int) : Option Bool :=
  (spec_ModelValid m).bind fun r1_ =>
  cond (!r1_) (
    some false) (
    cond ((perm.length:Int) != (m.1.length:Int)) (
      some false) (
      (spec_l6Vars m perm).bind fun r2_ =>
      cond (!r2_) (
        some false) (
        loop (spec_PermValid_l1 m perm) (0:Int))))

/-- spec.l10Rename -/
noncomputable def spec_l10Rename_l1 (r_ : Int × (List Int) × (List Int) × Int × (List (List Int))) (out_11 : List Int) : Int × (List (List Int)) → Option ((Int × (List (List Int))) ⊕ (Int × Int × (List Int) × (List Int) × (List (List Int)))) := fun (i1, out_4) =>
  cond (decide (i1 < (r_.2.2.2.2.length:Int))) (
    rq (0 ≤ i1 ∧ i1 < r_.2.2.2.2.length) <|
    rq (([] : List Int).length + (r_.2.2.2.2.getD i1.toNat []).length ≤ bound) <|
    rq (out_4.length + [(([] : List Int) ++ (r_.2.2.2.2.getD i1.toNat []))].length ≤ bound) <|
    rq (i64 (i1 + (1:Int))) <|
    some (.inl ((i1 + (1:Int)), (out_4 ++ [(([] : List Int) ++ (r_.2.2.2.2.getD i1.toNat []))])))) (
    some (.inr (r_.1, r_.2.2.2.1, out_11, (([] : List Int) ++ r_.2.2.1), out_4)))

noncomputable def spec_l10Rename_j3 (r_ : Int × (List Int) × (List Int) × Int × (List (List Int))) : (List Int) → Option (Int × Int × (List Int) × (List Int) × (List (List Int))) := fun out_11 =>
  loop (spec_l10Rename_l1 r_ out_11) ((0:Int), ([] : List (List Int)))

noncomputable def spec_l10Rename_l2 (r_ : Int × (List Int) × (List Int) × Int × (List (List Int))) (perm : List Int) : Int × (List Int) → Option ((Int × (List Int)) ⊕ (Int × Int × (List Int) × (List Int) × (List (List Int)))) := fun (i, out_1) =>
  cond (decide (i < (r_.2.1.length:Int))) (
    rq (0 ≤ i ∧ i < r_.2.1.length) <|
    rq (0 ≤ (r_.2.1.getD i.toNat 0) ∧ (r_.2.1.getD i.toNat 0) < perm.length) <|
    rq (out_1.length + [(perm.getD (r_.2.1.getD i.toNat 0).toNat 0)].length ≤ bound) <|
    rq (i64 (i + (1:Int))) <|
    some (.inl ((i + (1:Int)), (out_1 ++ [(perm.getD (r_.2.1.getD i.toNat 0).toNat 0)])))) (
    up (spec_l10Rename_j3 r_ out_1))

noncomputable def spec_l10Rename_j2 (r_ : Int × (List Int) × (List Int) × Int × (List (List Int))) (perm : List Int) : Unit → Option (Int × Int × (List Int) × (List Int) × (List (List Int))) := fun _ =>
  loop (spec_l10Rename_l2 r_ perm) ((0:Int), ([] : List Int))

noncomputable def spec_l10Rename_j1 (r_ : Int × (List Int) × (List Int) × Int × (List (List Int))) (perm : List Int) : Unit → Option (Int × Int × (List Int) × (List Int) × (List (List Int))) := fun _ =>
  rq (([] : List Int).length + r_.2.2.1.length ≤ bound) <|
  spec_l10Rename_j2 r_ perm ()

noncomputable def spec_l10Rename (r_ : Int × (List Int) × (List Int) × Int × (List (List Int))) (perm : List Int) : Option (Int × Int × (List Int) × (List Int) × (List (List Int))) :=
  spec_l10Rename_j1 r_ perm ()

/-- spec.PermuteModel -/
noncomputable def spec_PermuteModel_l1 (m : (List Int) × (List (Int × (List Int) × (List Int) × Int × (List (List Int))))) (perm : List Int) : Int × (List (Int × (List Int) × (List Int) × Int × (List (List Int)))) → Option ((Int × (List (Int × (List Int) × (List Int) × Int × (List (List Int))))) ⊕ (Bool × (List Int) × (List (Int × (List Int) × (List Int) × Int × (List (List Int)))))) := fun (i, out_1) =>
  cond (decide (i < (m.2.length:Int))) (
    rq (0 ≤ i ∧ i < m.2.length) <|
    (spec_l10Rename (m.2.getD i.toNat (0, ([], ([], (0, []))))) perm).bind fun r4_ =>
    rq (out_1.length + [(r4_.1, (r4_.2.2.1, (r4_.2.2.2.1, (r4_.2.1, r4_.2.2.2.2))))].length ≤ bound) <|
    rq (i64 (i + (1:Int))) <|
    some (.inl ((i + (1:Int)), (out_1 ++ [(r4_.1, (r4_.2.2.1, (r4_.2.2.2.1, (r4_.2.1, r4_.2.2.2.2))))])))) (
    some (.inr (true, (([] : List Int) ++ m.1), out_1)))

noncomputable def spec_PermuteModel (m : (List Int) × (List (Int × (List Int) × (List Int) × Int × (List (List Int))))) (perm : List Int) : Option (Bool × (List Int) × (List (Int × (List Int) × (List Int) × Int × (List (List Int))))) :=
  (spec_PermValid m perm).bind fun r1_ =>
  cond (!r1_) (
    some (false, ([] : List Int), ([] : List (Int × (List Int) × (List Int) × Int × (List (List Int)))))) (
    rq (([] : List Int).length + m.1.length ≤ bound) <|
    loop (spec_PermuteModel_l1 m perm) ((0:Int), ([] : List (Int × (List Int) × (List Int) × Int × (List (List Int))))))

/-- impl.within -/
noncomputable def impl_within (n : Int) (low : Int) (high : Int) : Option Bool :=
  cond (decide (low ≤ n)) (
    some (decide (n ≤ high))) (
    some false)

/-- slices.Index[[]int,int] -/
noncomputable def slices_Index_int_l1 (s_ : List Int) (v : Int) : Int → Option (Int ⊕ Int) := fun i =>
  cond (decide (i < (s_.length:Int))) (
    rq (0 ≤ i ∧ i < s_.length) <|
    cond (v == (s_.getD i.toNat 0)) (
      some (.inr i)) (
      rq (i64 (i + (1:Int))) <|
      some (.inl (i + (1:Int))))) (
    some (.inr (-1:Int)))

noncomputable def slices_Index_int (s_ : List Int) (v : Int) : Option Int :=
  loop (slices_Index_int_l1 s_ v) (0:Int)

/-- slices.Contains[[]int,int] -/
noncomputable def slices_Contains_int (s_ : List Int) (v : Int) : Option Bool :=
  (slices_Index_int s_ v).bind fun r1_ =>
  some (decide ((0:Int) ≤ r1_))

/-- impl.ruleValid$1 -/
noncomputable def impl_ruleValid_1 (n : Int) : Option Bool :=
  cond (n == (0:Int)) (
    some true) (
    (impl_within n (-9:Int) (9:Int)).bind fun r1_ =>
    some (!r1_))

/-- slices.IndexFunc[[]int,int] -/
noncomputable def slices_IndexFunc_int__impl_ruleValid_1_l1 (s_ : List Int) : Int → Option (Int ⊕ Int) := fun i =>
  cond (decide (i < (s_.length:Int))) (
    rq (0 ≤ i ∧ i < s_.length) <|
    (impl_ruleValid_1 (s_.getD i.toNat 0)).bind fun r1_ =>
    cond r1_ (
      some (.inr i)) (
      rq (i64 (i + (1:Int))) <|
      some (.inl (i + (1:Int))))) (
    some (.inr (-1:Int)))

noncomputable def slices_IndexFunc_int__impl_ruleValid_1 (s_ : List Int) : Option Int :=
  loop (slices_IndexFunc_int__impl_ruleValid_1_l1 s_) (0:Int)

/-- slices.ContainsFunc[[]int,int] -/
noncomputable def slices_ContainsFunc_int__impl_ruleValid_1 (s_ : List Int) : Option Bool :=
  (slices_IndexFunc_int__impl_ruleValid_1 s_).bind fun r1_ =>
  some (decide ((0:Int) ≤ r1_))

/-- impl.ruleValid$2$1 -/
noncomputable def impl_ruleValid_2_1 (n : Int) : Option Bool :=
  (impl_within n (0:Int) (3:Int)).bind fun r1_ =>
  some (!r1_)

/-- slices.IndexFunc[[]int,int] -/
noncomputable def slices_IndexFunc_int__impl_ruleValid_2_1_l1 (s_ : List Int) : Int → Option (Int ⊕ Int) := fun i =>
  cond (decide (i < (s_.length:Int))) (
    rq (0 ≤ i ∧ i < s_.length) <|
    (impl_ruleValid_2_1 (s_.getD i.toNat 0)).bind fun r1_ =>
    cond r1_ (
      some (.inr i)) (
      rq (i64 (i + (1:Int))) <|
      some (.inl (i + (1:Int))))) (
    some (.inr (-1:Int)))

noncomputable def slices_IndexFunc_int__impl_ruleValid_2_1 (s_ : List Int) : Option Int :=
  loop (slices_IndexFunc_int__impl_ruleValid_2_1_l1 s_) (0:Int)

/-- slices.ContainsFunc[[]int,int] -/
noncomputable def slices_ContainsFunc_int__impl_ruleValid_2_1 (s_ : List Int) : Option Bool :=
  (slices_IndexFunc_int__impl_ruleValid_2_1 s_).bind fun r1_ =>
  some (decide ((0:Int) ≤ r1_))

/-- impl.ruleValid$2 -/
noncomputable def impl_ruleValid_2 (row : List Int) (o0 : Int × (List Int) × (List Int) × Int × (List (List Int))) : Option Bool :=
  cond ((row.length:Int) != (o0.2.1.length:Int)) (
    some true) (
    (slices_ContainsFunc_int__impl_ruleValid_2_1 row).bind fun r1_ =>
    some r1_)

/-- slices.IndexFunc[[][]int,[]int] -/
noncomputable def slices_IndexFunc_s_int__impl_ruleValid_2_l1 (s_ : List (List Int)) (o0 : Int × (List Int) × (List Int) × Int × (List (List Int))) : Int → Option (Int ⊕ Int) := fun i =>
  cond (decide (i < (s_.length:Int))) (
    rq (0 ≤ i ∧ i < s_.length) <|
    (impl_ruleValid_2 (s_.getD i.toNat []) o0).bind fun r1_ =>
    cond r1_ (
      some (.inr i)) (
      rq (i64 (i + (1:Int))) <|
      some (.inl (i + (1:Int))))) (
    some (.inr (-1:Int)))

noncomputable def slices_IndexFunc_s_int__impl_ruleValid_2 (s_ : List (List Int)) (o0 : Int × (List Int) × (List Int) × Int × (List (List Int))) : Option Int :=
  loop (slices_IndexFunc_s_int__impl_ruleValid_2_l1 s_ o0) (0:Int)

/-- slices.ContainsFunc[[][]int,[]int] -/
noncomputable def slices_ContainsFunc_s_int__impl_ruleValid_2 (s_ : List (List Int)) (o0 : Int × (List Int) × (List Int) × Int × (List (List Int))) : Option Bool :=
  (slices_IndexFunc_s_int__impl_ruleValid_2 s_ o0).bind fun r1_ =>
  some (decide ((0:Int) ≤ r1_))

/-- impl.ruleValid -/
noncomputable def impl_ruleValid_j1 (a0 : Int × (List Int) × (List Int) × Int × (List (List Int))) : Unit → Option (Int ⊕ Bool) := fun _ =>
  cond (a0.1 == (1:Int)) (
    cond ((a0.2.2.1.length:Int) == (a0.2.1.length:Int)) (
      (impl_within a0.2.2.2.1 (-1000:Int) (1000:Int)).bind fun r3_ =>
      cond r3_ (
        (slices_ContainsFunc_int__impl_ruleValid_1 a0.2.2.1).bind fun r4_ =>
        some (.inr (!r4_))) (
        some (.inr false))) (
      some (.inr false))) (
    cond (a0.1 == (3:Int)) (
      cond (decide ((a0.2.2.2.2.length:Int) ≤ (8:Int))) (
        (slices_ContainsFunc_s_int__impl_ruleValid_2 a0.2.2.2.2 a0).bind fun r5_ =>
        some (.inr (!r5_))) (
        some (.inr false))) (
      cond (a0.1 == (4:Int)) (
        some (.inr ((a0.2.1.length:Int) == (2:Int)))) (
        some (.inr (a0.1 == (2:Int))))))

noncomputable def impl_ruleValid_l1 (a0 : Int × (List Int) × (List Int) × Int × (List (List Int))) (a1 : Int) : Int → Option (Int ⊕ Bool) := fun i =>
  cond (decide (i < (a0.2.1.length:Int))) (
    rq (0 ≤ i ∧ i < a0.2.1.length) <|
    rq (i64 (a1 - (1:Int))) <|
    (impl_within (a0.2.1.getD i.toNat 0) (0:Int) (a1 - (1:Int))).bind fun r1_ =>
    cond (!r1_) (
      some (.inr false)) (
      rq (0 ≤ i ∧ i ≤ a0.2.1.length) <|
      (slices_Contains_int (a0.2.1.take i.toNat) (a0.2.1.getD i.toNat 0)).bind fun r2_ =>
      cond r2_ (
        some (.inr false)) (
        rq (i64 (i + (1:Int))) <|
        some (.inl (i + (1:Int)))))) (
    cond ((a0.2.1.length:Int) == (0:Int)) (
      some (.inr false)) (
      cond (a0.1 != (1:Int)) (
        cond (decide ((0:Int) < (a0.2.2.1.length:Int))) (
          some (.inr false)) (
          cond (a0.2.2.2.1 != (0:Int)) (
            some (.inr false)) (
            cond (a0.1 != (3:Int)) (
              cond (decide ((0:Int) < (a0.2.2.2.2.length:Int))) (
                some (.inr false)) (
                impl_ruleValid_j1 a0 ())) (
              impl_ruleValid_j1 a0 ())))) (
        cond (a0.1 != (3:Int)) (
          cond (decide ((0:Int) < (a0.2.2.2.2.length:Int))) (
            some (.inr false)) (
            impl_ruleValid_j1 a0 ())) (
          impl_ruleValid_j1 a0 ()))))

noncomputable def impl_ruleValid (a0 : Int × (List Int) × (List Int) × Int × (List (List Int))) (a1 : Int) : Option Bool :=
  loop (impl_ruleValid_l1 a0 a1) (0:Int)

/-- impl.ModelValid$1 -/
noncomputable def impl_ModelValid_1 (r_ : Int × (List Int) × (List Int) × Int × (List (List Int))) (o0 : (List Int) × (List (Int × (List Int) × (List Int) × Int × (List (List Int))))) : Option Bool :=
  (impl_ruleValid r_ (o0.1.length:Int)).bind fun r1_ =>
  some (!r1_)

/-- slices.IndexFunc[[]impl.Rule,impl.Rule] -/
noncomputable def slices_IndexFunc_impl_Rule__impl_ModelValid_1_l1 (s_ : List (Int × (List Int) × (List Int) × Int × (List (List Int)))) (o0 : (List Int) × (List (Int × (List Int) × (List Int) × Int × (List (List Int))))) : Int → Option (Int ⊕ Int) := fun i =>
  cond (decide (i < (s_.length:Int))) (
    rq (0 ≤ i ∧ i < s_.length) <|
    (impl_ModelValid_1 (s_.getD i.toNat (0, ([], ([], (0, []))))) o0).bind fun r1_ =>
    cond r1_ (
      some (.inr i)) (
      rq (i64 (i + (1:Int))) <|
      some (.inl (i + (1:Int))))) (
    some (.inr (-1:Int)))

noncomputable def slices_IndexFunc_impl_Rule__impl_ModelValid_1 (s_ : List (Int × (List Int) × (List Int) × Int × (List (List Int)))) (o0 : (List Int) × (List (Int × (List Int) × (List Int) × Int × (List (List Int))))) : Option Int :=
  loop (slices_IndexFunc_impl_Rule__impl_ModelValid_1_l1 s_ o0) (0:Int)

/-- slices.ContainsFunc[[]impl.Rule,impl.Rule] -/
noncomputable def slices_ContainsFunc_impl_Rule__impl_ModelValid_1 (s_ : List (Int × (List Int) × (List Int) × Int × (List (List Int)))) (o0 : (List Int) × (List (Int × (List Int) × (List Int) × Int × (List (List Int))))) : Option Bool :=
  (slices_IndexFunc_impl_Rule__impl_ModelValid_1 s_ o0).bind fun r1_ =>
  some (decide ((0:Int) ≤ r1_))

/-- impl.ModelValid -/
noncomputable def impl_ModelValid_l1 (m : (List Int) × (List (Int × (List Int) × (List Int) × Int × (List (List Int))))) : Int × Int → Option ((Int × Int) ⊕ Bool) := fun (count, i) =>
  cond (decide (i < (m.1.length:Int))) (
    rq (0 ≤ i ∧ i < m.1.length) <|
    (impl_within (m.1.getD i.toNat 0) (0:Int) (3:Int)).bind fun r2_ =>
    cond (!r2_) (
      some (.inr false)) (
      rq (i64 ((m.1.getD i.toNat 0) + (1:Int))) <|
      rq (i64 (count + ((m.1.getD i.toNat 0) + (1:Int)))) <|
      rq (i64 (i + (1:Int))) <|
      some (.inl ((count + ((m.1.getD i.toNat 0) + (1:Int))), (i + (1:Int)))))) (
    cond (decide (count ≤ (12:Int))) (
      (slices_ContainsFunc_impl_Rule__impl_ModelValid_1 m.2 m).bind fun r3_ =>
      some (.inr (!r3_))) (
      some (.inr false)))

noncomputable def impl_ModelValid (m : (List Int) × (List (Int × (List Int) × (List Int) × Int × (List (List Int))))) : Option Bool :=
  (impl_within (m.1.length:Int) (1:Int) (5:Int)).bind fun r1_ =>
  cond (!r1_) (
    some false) (
    cond (decide ((8:Int) < (m.2.length:Int))) (
      some false) (
      loop (impl_ModelValid_l1 m) ((0:Int), (0:Int))))

/-- impl.PermValid -/
noncomputable def impl_PermValid_l1 (m : (List Int) × (List (Int × (List Int) × (List Int) × Int × (List (List Int))))) (perm : List Int) : Int → Option (Int ⊕ Bool) := fun i =>
  cond (decide (i < (perm.length:Int))) (
    rq (0 ≤ i ∧ i < perm.length) <|
    rq (i64 ((perm.length:Int) - (1:Int))) <|
    (impl_within (perm.getD i.toNat 0) (0:Int) ((perm.length:Int) - (1:Int))).bind fun r4_ =>
    cond (!r4_) (
      some (.inr false)) (
      rq (0 ≤ (perm.getD i.toNat 0) ∧ (perm.getD i.toNat 0) < m.1.length) <|
      rq (0 ≤ i ∧ i < m.1.length) <|
      cond ((m.1.getD (perm.getD i.toNat 0).toNat 0) != (m.1.getD i.toNat 0)) (
        some (.inr false)) (
        rq (0 ≤ i ∧ i ≤ perm.length) <|
        (slices_Contains_int (perm.take i.toNat) (perm.getD i.toNat 0)).bind fun r5_ =>
        cond r5_ (
          some (.inr false)) (
          rq (i64 (i + (1:Int))) <|
          some (.inl (i + (1:Int))))))) (
    some (.inr true))

noncomputable def impl_PermValid (m : (List Int) × (List (Int × (List Int) × (List Int) × Int × (List (List Int))))) (perm : List Int) : Option Bool :=
  (impl_ModelValid m).bind fun r1_ =>
  cond (!r1_) (
    some false) (
    cond ((perm.length:Int) != (m.1.length:Int)) (
      some false) (
      loop (impl_PermValid_l1 m perm) (0:Int)))

/-- slices.Clone[[]int,int] -/
noncomputable def slices_Clone_int (s_ : List Int) : Option (List Int) :=
  nt (s_ = []) (
    some ([] : List Int)) (
    rq (([] : List Int).length + s_.length ≤ bound) <|
    some (([] : List Int) ++ s_))

/-- slices.Clone[[][]int,[]int] -/
noncomputable def slices_Clone_s_int (s_ : List (List Int)) : Option (List (List Int)) :=
  nt (s_ = []) (
    some ([] : List (List Int))) (
    rq (([] : List (List Int)).length + s_.length ≤ bound) <|
    some (([] : List (List Int)) ++ s_))

/-- (impl.Rule).own -/
noncomputable def impl_Rule_own_l1 (r_ : Int × (List Int) × (List Int) × Int × (List (List Int))) (r_1 : List Int) (r_2 : List Int) (r_4 : List (List Int)) : Int × Int × (List (List Int)) → Option ((Int × Int × (List (List Int))) ⊕ (Int × Int × (List Int) × (List Int) × (List (List Int)))) := fun (i, k_, i1) =>
  cond (decide (i < (r_4.length:Int))) (
    rq (0 ≤ i ∧ i < i1.length) <|
    rq (k_ ≤ i) <|
    (slices_Clone_int (i1.getD i.toNat [])).bind fun r9_ =>
    rq (0 ≤ i ∧ i < i1.length) <|
    rq (i = k_) <|
    rq (i64 (i + (1:Int))) <|
    some (.inl ((i + (1:Int)), (k_ + 1), (i1.set i.toNat r9_)))) (
    rq (k_ = i1.length) <|
    some (.inr (r_.1, r_.2.2.2.1, r_1, r_2, i1)))

noncomputable def impl_Rule_own_j1 (r_ : Int × (List Int) × (List Int) × Int × (List (List Int))) : (List Int) × (List Int) × (List (List Int)) → Option (Int × Int × (List Int) × (List Int) × (List (List Int))) := fun (r_1, r_2, r_4) =>
  loop (impl_Rule_own_l1 r_ r_1 r_2 r_4) ((0:Int), (0:Int), r_4)

noncomputable def impl_Rule_own (r_ : Int × (List Int) × (List Int) × Int × (List (List Int))) : Option (Int × Int × (List Int) × (List Int) × (List (List Int))) :=
  (slices_Clone_int r_.2.1).bind fun r4_ =>
  (slices_Clone_int r_.2.2.1).bind fun r5_ =>
  (slices_Clone_s_int r_.2.2.2.2).bind fun r6_ =>
  impl_Rule_own_j1 r_ (r4_, r5_, r6_)

/-- (impl.Model).own -/
noncomputable def impl_Model_own_l1 (m : (List Int) × (List (Int × (List Int) × (List Int) × Int × (List (List Int))))) (r1_ : (List Int)) : Int × (List (Int × (List Int) × (List Int) × Int × (List (List Int)))) → Option ((Int × (List (Int × (List Int) × (List Int) × Int × (List (List Int))))) ⊕ ((List Int) × (List (Int × (List Int) × (List Int) × Int × (List (List Int)))))) := fun (i, out_1) =>
  cond (decide (i < (m.2.length:Int))) (
    rq (0 ≤ i ∧ i < m.2.length) <|
    (impl_Rule_own (m.2.getD i.toNat (0, ([], ([], (0, [])))))).bind fun r4_ =>
    rq (out_1.length + [(r4_.1, (r4_.2.2.1, (r4_.2.2.2.1, (r4_.2.1, r4_.2.2.2.2))))].length ≤ bound) <|
    rq (i64 (i + (1:Int))) <|
    some (.inl ((i + (1:Int)), (out_1 ++ [(r4_.1, (r4_.2.2.1, (r4_.2.2.2.1, (r4_.2.1, r4_.2.2.2.2))))])))) (
    some (.inr (r1_, out_1)))

noncomputable def impl_Model_own (m : (List Int) × (List (Int × (List Int) × (List Int) × Int × (List (List Int))))) : Option ((List Int) × (List (Int × (List Int) × (List Int) × Int × (List (List Int))))) :=
  (slices_Clone_int m.1).bind fun r1_ =>
  loop (impl_Model_own_l1 m r1_) ((0:Int), ([] : List (Int × (List Int) × (List Int) × Int × (List (List Int)))))

/-- (impl.Model).permuted -/
noncomputable def impl_Model_permuted_l2 (perm : List Int) (i : Int) (i3 : List (Int × (List Int) × (List Int) × Int × (List (List Int)))) : Int × (List Int) → Option ((Int × (List Int)) ⊕ ((Int × (List (Int × (List Int) × (List Int) × Int × (List (List Int))))) ⊕ ((List Int) × (List (Int × (List Int) × (List Int) × Int × (List (List Int))))))) := fun (i4, i5) =>
  cond (decide (i4 < ((i3.getD i.toNat (0, ([], ([], (0, []))))).2.1.length:Int))) (
    rq (0 ≤ i4 ∧ i4 < i5.length) <|
    rq (0 ≤ (i5.getD i4.toNat 0) ∧ (i5.getD i4.toNat 0) < perm.length) <|
    rq (0 ≤ i4 ∧ i4 < i5.length) <|
    rq (i64 (i4 + (1:Int))) <|
    some (.inl ((i4 + (1:Int)), (i5.set i4.toNat (perm.getD (i5.getD i4.toNat 0).toNat 0))))) (
    rq (i64 (i + (1:Int))) <|
    some (.inr (.inl ((i + (1:Int)), (i3.set i.toNat ((i3.getD i.toNat (0, ([], ([], (0, []))))).1, (i5, (i3.getD i.toNat (0, ([], ([], (0, []))))).2.2)))))))

noncomputable def impl_Model_permuted_l1 (perm : List Int) (r1_ : (List Int) × (List (Int × (List Int) × (List Int) × Int × (List (List Int))))) : Int × (List (Int × (List Int) × (List Int) × Int × (List (List Int)))) → Option ((Int × (List (Int × (List Int) × (List Int) × Int × (List (List Int))))) ⊕ ((List Int) × (List (Int × (List Int) × (List Int) × Int × (List (List Int)))))) := fun (i, i3) =>
  cond (decide (i < (r1_.2.length:Int))) (
    rq (0 ≤ i ∧ i < i3.length) <|
    loop (impl_Model_permuted_l2 perm i i3) ((0:Int), (i3.getD i.toNat (0, ([], ([], (0, []))))).2.1)) (
    some (.inr (r1_.1, i3)))

noncomputable def impl_Model_permuted (m : (List Int) × (List (Int × (List Int) × (List Int) × Int × (List (List Int))))) (perm : List Int) : Option ((List Int) × (List (Int × (List Int) × (List Int) × Int × (List (List Int))))) :=
  (impl_Model_own m).bind fun r1_ =>
  loop (impl_Model_permuted_l1 perm r1_) ((0:Int), r1_.2)

/-- impl.PermuteModel -/
noncomputable def impl_PermuteModel (m : (List Int) × (List (Int × (List Int) × (List Int) × Int × (List (List Int))))) (perm : List Int) : Option (Bool × (List Int) × (List (Int × (List Int) × (List Int) × Int × (List (List Int))))) :=
  (impl_PermValid m perm).bind fun r1_ =>
  cond (!r1_) (
    some (false, ([] : List Int), ([] : List (Int × (List Int) × (List Int) × Int × (List (List Int)))))) (
    (impl_Model_permuted m perm).bind fun r2_ =>
    some (true, r2_.1, r2_.2))

/-- laws.eqIntS -/
noncomputable def laws_eqIntS_l1 (a : List Int) (b : List Int) : Int → Option (Int ⊕ Bool) := fun i =>
  cond (decide (i < (a.length:Int))) (
    rq (0 ≤ i ∧ i < a.length) <|
    rq (0 ≤ i ∧ i < b.length) <|
    cond ((a.getD i.toNat 0) != (b.getD i.toNat 0)) (
      some (.inr false)) (
      rq (i64 (i + (1:Int))) <|
      some (.inl (i + (1:Int))))) (
    some (.inr true))

noncomputable def laws_eqIntS (a : List Int) (b : List Int) : Option Bool :=
  cond ((a.length:Int) != (b.length:Int)) (
    some false) (
    loop (laws_eqIntS_l1 a b) (0:Int))

/-- laws.eqIntSS -/
noncomputable def laws_eqIntSS_l1 (a : List (List Int)) (b : List (List Int)) : Int → Option (Int ⊕ Bool) := fun i =>
  cond (decide (i < (a.length:Int))) (
    rq (0 ≤ i ∧ i < a.length) <|
    rq (0 ≤ i ∧ i < b.length) <|
    (laws_eqIntS (a.getD i.toNat []) (b.getD i.toNat [])).bind fun r2_ =>
    cond (!r2_) (
      some (.inr false)) (
      rq (i64 (i + (1:Int))) <|
      some (.inl (i + (1:Int))))) (
    some (.inr true))

noncomputable def laws_eqIntSS (a : List (List Int)) (b : List (List Int)) : Option Bool :=
  cond ((a.length:Int) != (b.length:Int)) (
    some false) (
    loop (laws_eqIntSS_l1 a b) (0:Int))

/-- laws.eqRule -/
noncomputable def laws_eqRule (a : Int × (List Int) × (List Int) × Int × (List (List Int))) (b : Int × (List Int) × (List Int) × Int × (List (List Int))) : Option Bool :=
  cond (a.1 != b.1) (
    some false) (
    (laws_eqIntS a.2.1 b.2.1).bind fun r1_ =>
    cond (!r1_) (
      some false) (
      (laws_eqIntS a.2.2.1 b.2.2.1).bind fun r2_ =>
      cond (!r2_) (
        some false) (
        cond (a.2.2.2.1 != b.2.2.2.1) (
          some false) (
          (laws_eqIntSS a.2.2.2.2 b.2.2.2.2).bind fun r3_ =>
          cond (!r3_) (
            some false) (
            some true)))))

/-- laws.eqRuleS -/
noncomputable def laws_eqRuleS_l1 (a : List (Int × (List Int) × (List Int) × Int × (List (List Int)))) (b : List (Int × (List Int) × (List Int) × Int × (List (List Int)))) : Int → Option (Int ⊕ Bool) := fun i =>
  cond (decide (i < (a.length:Int))) (
    rq (0 ≤ i ∧ i < a.length) <|
    rq (0 ≤ i ∧ i < b.length) <|
    (laws_eqRule (a.getD i.toNat (0, ([], ([], (0, []))))) (b.getD i.toNat (0, ([], ([], (0, [])))))).bind fun r2_ =>
    cond (!r2_) (
      some (.inr false)) (
      rq (i64 (i + (1:Int))) <|
      some (.inl (i + (1:Int))))) (
    some (.inr true))

noncomputable def laws_eqRuleS (a : List (Int × (List Int) × (List Int) × Int × (List (List Int)))) (b : List (Int × (List Int) × (List Int) × Int × (List (List Int)))) : Option Bool :=
  cond ((a.length:Int) != (b.length:Int)) (
    some false) (
    loop (laws_eqRuleS_l1 a b) (0:Int))

/-- laws.eqModel -/
noncomputable def laws_eqModel (a : (List Int) × (List (Int × (List Int) × (List Int) × Int × (List (List Int))))) (b : (List Int) × (List (Int × (List Int) × (List Int) × Int × (List (List Int))))) : Option Bool :=
  (laws_eqIntS a.1 b.1).bind fun r1_ =>
  cond (!r1_) (
    some false) (
    (laws_eqRuleS a.2 b.2).bind fun r2_ =>
    cond (!r2_) (
      some false) (
      some true))

/-- laws.markIntS -/
noncomputable def laws_markIntS_l1 : Int × Int × (List Int) → Option ((Int × Int × (List Int)) ⊕ (Int × (List Int))) := fun (k_1, i, a1) =>
  cond (decide (i < (a1.length:Int))) (
    rq (0 ≤ i ∧ i < a1.length) <|
    rq (i64 (k_1 + (1:Int))) <|
    rq (i64 (i + (1:Int))) <|
    some (.inl ((k_1 + (1:Int)), (i + (1:Int)), (a1.set i.toNat k_1)))) (
    some (.inr (k_1, a1)))

noncomputable def laws_markIntS (k_ : Int) (a : List Int) : Option (Int × (List Int)) :=
  loop (laws_markIntS_l1) (k_, (0:Int), a)

/-- laws.markIntS -/
noncomputable def laws_markIntS__d_l1 : Int × Int × (List Int) → Option ((Int × Int × (List Int)) ⊕ (Int × (List Int))) := fun (k_1, i, a1) =>
  cond (decide (i < (a1.length:Int))) (
    rq (0 ≤ i ∧ i < a1.length) <|
    rq (i64 (k_1 + (1:Int))) <|
    rq (i64 (i + (1:Int))) <|
    some (.inl ((k_1 + (1:Int)), (i + (1:Int)), (a1.set i.toNat k_1)))) (
    some (.inr (k_1, a1)))

noncomputable def laws_markIntS__d (k_ : Int) (a : List Int) : Option (Int × (List Int)) :=
  loop (laws_markIntS__d_l1) (k_, (0:Int), a)

/-- laws.markIntSS -/
noncomputable def laws_markIntSS_l1 : Int × Int × (List (List Int)) → Option ((Int × Int × (List (List Int))) ⊕ (Int × (List (List Int)))) := fun (k_1, i, a1) =>
  cond (decide (i < (a1.length:Int))) (
    rq (0 ≤ i ∧ i < a1.length) <|
    (laws_markIntS__d k_1 (a1.getD i.toNat [])).bind fun r2_ =>
    rq (i64 (i + (1:Int))) <|
    some (.inl (r2_.1, (i + (1:Int)), (a1.set i.toNat r2_.2)))) (
    some (.inr (k_1, a1)))

noncomputable def laws_markIntSS (k_ : Int) (a : List (List Int)) : Option (Int × (List (List Int))) :=
  loop (laws_markIntSS_l1) (k_, (0:Int), a)

/-- laws.markRuleS -/
noncomputable def laws_markRuleS_j2 (i : Int) (k_3 : Int) : (List (Int × (List Int) × (List Int) × Int × (List (List Int)))) → Option ((Int × Int × (List (Int × (List Int) × (List Int) × Int × (List (List Int))))) ⊕ (Int × (List (Int × (List Int) × (List Int) × Int × (List (List Int)))))) := fun a5 =>
  rq (i64 (k_3 + (1:Int))) <|
  rq (0 ≤ i ∧ i < a5.length) <|
  (laws_markIntSS (k_3 + (1:Int)) (a5.getD i.toNat (0, ([], ([], (0, []))))).2.2.2.2).bind fun r6_ =>
  rq (i64 (i + (1:Int))) <|
  some (.inl (r6_.1, (i + (1:Int)), (a5.set i.toNat ((a5.getD i.toNat (0, ([], ([], (0, []))))).1, ((a5.getD i.toNat (0, ([], ([], (0, []))))).2.1, ((a5.getD i.toNat (0, ([], ([], (0, []))))).2.2.1, ((a5.getD i.toNat (0, ([], ([], (0, []))))).2.2.2.1, r6_.2)))))))

noncomputable def laws_markRuleS_j1 (i : Int) : Int × (List (Int × (List Int) × (List Int) × Int × (List (List Int)))) → Option ((Int × Int × (List (Int × (List Int) × (List Int) × Int × (List (List Int))))) ⊕ (Int × (List (Int × (List Int) × (List Int) × Int × (List (List Int)))))) := fun (k_3, a4) =>
  rq (0 ≤ i ∧ i < a4.length) <|
  laws_markRuleS_j2 i k_3 (a4.set i.toNat ((a4.getD i.toNat (0, ([], ([], (0, []))))).1, ((a4.getD i.toNat (0, ([], ([], (0, []))))).2.1, ((a4.getD i.toNat (0, ([], ([], (0, []))))).2.2.1, (k_3, (a4.getD i.toNat (0, ([], ([], (0, []))))).2.2.2.2)))))

noncomputable def laws_markRuleS_l1 : Int × Int × (List (Int × (List Int) × (List Int) × Int × (List (List Int)))) → Option ((Int × Int × (List (Int × (List Int) × (List Int) × Int × (List (List Int))))) ⊕ (Int × (List (Int × (List Int) × (List Int) × Int × (List (List Int)))))) := fun (k_1, i, a3) =>
  cond (decide (i < (a3.length:Int))) (
    rq (0 ≤ i ∧ i < a3.length) <|
    rq (i64 (k_1 + (1:Int))) <|
    rq (0 ≤ i ∧ i < (a3.set i.toNat (k_1, (a3.getD i.toNat (0, ([], ([], (0, []))))).2)).length) <|
    (laws_markIntS__d (k_1 + (1:Int)) ((a3.set i.toNat (k_1, (a3.getD i.toNat (0, ([], ([], (0, []))))).2)).getD i.toNat (0, ([], ([], (0, []))))).2.1).bind fun r4_ =>
    rq (0 ≤ i ∧ i < (a3.set i.toNat (k_1, (a3.getD i.toNat (0, ([], ([], (0, []))))).2)).length) <|
    (laws_markIntS__d r4_.1 (((a3.set i.toNat (k_1, (a3.getD i.toNat (0, ([], ([], (0, []))))).2)).set i.toNat (((a3.set i.toNat (k_1, (a3.getD i.toNat (0, ([], ([], (0, []))))).2)).getD i.toNat (0, ([], ([], (0, []))))).1, (r4_.2, ((a3.set i.toNat (k_1, (a3.getD i.toNat (0, ([], ([], (0, []))))).2)).getD i.toNat (0, ([], ([], (0, []))))).2.2))).getD i.toNat (0, ([], ([], (0, []))))).2.2.1).bind fun r5_ =>
    laws_markRuleS_j1 i (r5_.1, (((a3.set i.toNat (k_1, (a3.getD i.toNat (0, ([], ([], (0, []))))).2)).set i.toNat (((a3.set i.toNat (k_1, (a3.getD i.toNat (0, ([], ([], (0, []))))).2)).getD i.toNat (0, ([], ([], (0, []))))).1, (r4_.2, ((a3.set i.toNat (k_1, (a3.getD i.toNat (0, ([], ([], (0, []))))).2)).getD i.toNat (0, ([], ([], (0, []))))).2.2))).set i.toNat ((((a3.set i.toNat (k_1, (a3.getD i.toNat (0, ([], ([], (0, []))))).2)).set i.toNat (((a3.set i.toNat (k_1, (a3.getD i.toNat (0, ([], ([], (0, []))))).2)).getD i.toNat (0, ([], ([], (0, []))))).1, (r4_.2, ((a3.set i.toNat (k_1, (a3.getD i.toNat (0, ([], ([], (0, []))))).2)).getD i.toNat (0, ([], ([], (0, []))))).2.2))).getD i.toNat (0, ([], ([], (0, []))))).1, ((((a3.set i.toNat (k_1, (a3.getD i.toNat (0, ([], ([], (0, []))))).2)).set i.toNat (((a3.set i.toNat (k_1, (a3.getD i.toNat (0, ([], ([], (0, []))))).2)).getD i.toNat (0, ([], ([], (0, []))))).1, (r4_.2, ((a3.set i.toNat (k_1, (a3.getD i.toNat (0, ([], ([], (0, []))))).2)).getD i.toNat (0, ([], ([], (0, []))))).2.2))).getD i.toNat (0, ([], ([], (0, []))))).2.1, (r5_.2, (((a3.set i.toNat (k_1, (a3.getD i.toNat (0, ([], ([], (0, []))))).2)).set i.toNat (((a3.set i.toNat (k_1, (a3.getD i.toNat (0, ([], ([], (0, []))))).2)).getD i.toNat (0, ([], ([], (0, []))))).1, (r4_.2, ((a3.set i.toNat (k_1, (a3.getD i.toNat (0, ([], ([], (0, []))))).2)).getD i.toNat (0, ([], ([], (0, []))))).2.2))).getD i.toNat (0, ([], ([], (0, []))))).2.2.2)))))) (
    some (.inr (k_1, a3)))

noncomputable def laws_markRuleS (k_ : Int) (a : List (Int × (List Int) × (List Int) × Int × (List (List Int)))) : Option (Int × (List (Int × (List Int) × (List Int) × Int × (List (List Int))))) :=
  loop (laws_markRuleS_l1) (k_, (0:Int), a)

/-- laws.markModel -/
noncomputable def laws_markModel (k_ : Int) (o0 : List Int) (o1 : List (Int × (List Int) × (List Int) × Int × (List (List Int)))) : Option (Int × (List Int) × (List (Int × (List Int) × (List Int) × Int × (List (List Int))))) :=
  (laws_markIntS k_ o0).bind fun r1_ =>
  (laws_markRuleS r1_.1 o1).bind fun r2_ =>
  some (r2_.1, r1_.2, r2_.2)

/-- laws.heldIntS -/
noncomputable def laws_heldIntS_l1 (a : List Int) : Int × Int → Option ((Int × Int) ⊕ Int) := fun (k_1, i) =>
  cond (decide (i < (a.length:Int))) (
    rq (0 ≤ i ∧ i < a.length) <|
    cond ((a.getD i.toNat 0) != k_1) (
      some (.inr (-1:Int))) (
      rq (i64 (k_1 + (1:Int))) <|
      rq (i64 (i + (1:Int))) <|
      some (.inl ((k_1 + (1:Int)), (i + (1:Int)))))) (
    some (.inr k_1))

noncomputable def laws_heldIntS (a : List Int) (k_ : Int) : Option Int :=
  loop (laws_heldIntS_l1 a) (k_, (0:Int))

/-- laws.heldIntSS -/
noncomputable def laws_heldIntSS_l1 (a : List (List Int)) : Int × Int → Option ((Int × Int) ⊕ Int) := fun (k_1, i) =>
  cond (decide (i < (a.length:Int))) (
    rq (0 ≤ i ∧ i < a.length) <|
    (laws_heldIntS (a.getD i.toNat []) k_1).bind fun r1_ =>
    cond (decide (r1_ < (0:Int))) (
      some (.inr (-1:Int))) (
      rq (i64 (i + (1:Int))) <|
      some (.inl (r1_, (i + (1:Int)))))) (
    some (.inr k_1))

noncomputable def laws_heldIntSS (a : List (List Int)) (k_ : Int) : Option Int :=
  loop (laws_heldIntSS_l1 a) (k_, (0:Int))

/-- laws.heldRuleS -/
noncomputable def laws_heldRuleS_l1 (a : List (Int × (List Int) × (List Int) × Int × (List (List Int)))) : Int × Int → Option ((Int × Int) ⊕ Int) := fun (k_1, i) =>
  cond (decide (i < (a.length:Int))) (
    rq (0 ≤ i ∧ i < a.length) <|
    cond ((a.getD i.toNat (0, ([], ([], (0, []))))).1 != k_1) (
      some (.inr (-1:Int))) (
      rq (i64 (k_1 + (1:Int))) <|
      rq (0 ≤ i ∧ i < a.length) <|
      (laws_heldIntS (a.getD i.toNat (0, ([], ([], (0, []))))).2.1 (k_1 + (1:Int))).bind fun r1_ =>
      cond (decide (r1_ < (0:Int))) (
        some (.inr (-1:Int))) (
        rq (0 ≤ i ∧ i < a.length) <|
        (laws_heldIntS (a.getD i.toNat (0, ([], ([], (0, []))))).2.2.1 r1_).bind fun r2_ =>
        cond (decide (r2_ < (0:Int))) (
          some (.inr (-1:Int))) (
          rq (0 ≤ i ∧ i < a.length) <|
          cond ((a.getD i.toNat (0, ([], ([], (0, []))))).2.2.2.1 != r2_) (
            some (.inr (-1:Int))) (
            rq (i64 (r2_ + (1:Int))) <|
            rq (0 ≤ i ∧ i < a.length) <|
            (laws_heldIntSS (a.getD i.toNat (0, ([], ([], (0, []))))).2.2.2.2 (r2_ + (1:Int))).bind fun r3_ =>
            cond (decide (r3_ < (0:Int))) (
              some (.inr (-1:Int))) (
              rq (i64 (i + (1:Int))) <|
              some (.inl (r3_, (i + (1:Int)))))))))) (
    some (.inr k_1))

noncomputable def laws_heldRuleS (a : List (Int × (List Int) × (List Int) × Int × (List (List Int)))) (k_ : Int) : Option Int :=
  loop (laws_heldRuleS_l1 a) (k_, (0:Int))

/-- laws.heldModel -/
noncomputable def laws_heldModel (a : (List Int) × (List (Int × (List Int) × (List Int) × Int × (List (List Int))))) (k_ : Int) : Option Int :=
  (laws_heldIntS a.1 k_).bind fun r1_ =>
  cond (decide (r1_ < (0:Int))) (
    some (-1:Int)) (
    (laws_heldRuleS a.2 r1_).bind fun r2_ =>
    cond (decide (r2_ < (0:Int))) (
      some (-1:Int)) (
      some r2_))

/-- laws.FnExactPermuteModel -/
noncomputable def laws_FnExactPermuteModel_j1 (a0 : (List Int) × (List (Int × (List Int) × (List Int) × Int × (List (List Int))))) (a1 : List Int) (r4_ : Bool × (List Int) × (List (Int × (List Int) × (List Int) × Int × (List (List Int))))) (r5_ : (List Int) × (List (Int × (List Int) × (List Int) × Int × (List (List Int))))) (r6_ : (List Int)) (r7_ : Bool × (List Int) × (List (Int × (List Int) × (List Int) × Int × (List (List Int))))) : Unit → Option Bool := fun _ =>
  (laws_toIntS a1).bind fun r13_ =>
  (laws_eqIntS r6_ r13_).bind fun r14_ =>
  cond (!r14_) (
    some false) (
    (laws_markModel (1:Int) r5_.1 r5_.2).bind fun r15_ =>
    (laws_markIntS r15_.1 r6_).bind fun r16_ =>
    cond (decide (r16_.1 < (0:Int))) (
      some false) (
      (laws_eqModel r7_.2 r4_.2).bind fun r17_ =>
      cond (!r17_) (
        some false) (
        cond (r7_.1 != r4_.1) (
          some false) (
          (laws_markModel (1:Int) r7_.2.1 r7_.2.2).bind fun r18_ =>
          (laws_heldModel r18_.2 (1:Int)).bind fun r19_ =>
          cond (decide (r19_ < (0:Int))) (
            some false) (
            cond (r19_ != r18_.1) (
              some false) (
              (laws_toModel a0).bind fun r20_ =>
              (laws_toIntS a1).bind fun r21_ =>
              (impl_PermuteModel r20_ r21_).bind fun r22_ =>
              (laws_eqModel r22_.2 r4_.2).bind fun r23_ =>
              cond (!r23_) (
                some false) (
                cond (r22_.1 != r4_.1) (
                  some false) (
                  (laws_heldModel r18_.2 (1:Int)).bind fun r24_ =>
                  cond (decide (r24_ < (0:Int))) (
                    some false) (
                    cond (r24_ != r18_.1) (
                      some false) (
                      some true))))))))))

noncomputable def laws_FnExactPermuteModel (a0 : (List Int) × (List (Int × (List Int) × (List Int) × Int × (List (List Int))))) (a1 : List Int) : Option Bool :=
  cond (decide ((1048576:Int) < (a1.length:Int))) (
    some true) (
    (laws_szModel a0 (1048576:Int)).bind fun r1_ =>
    cond (decide (r1_ < (0:Int))) (
      some true) (
      (laws_toModel a0).bind fun r2_ =>
      (laws_toIntS a1).bind fun r3_ =>
      (spec_PermuteModel r2_ r3_).bind fun r4_ =>
      (laws_toModel a0).bind fun r5_ =>
      (laws_toIntS a1).bind fun r6_ =>
      (impl_PermuteModel r5_ r6_).bind fun r7_ =>
      (laws_eqModel r7_.2 r4_.2).bind fun r8_ =>
      cond (!r8_) (
        some false) (
        cond (r7_.1 != r4_.1) (
          some false) (
          (laws_toModel a0).bind fun r11_ =>
          (laws_eqModel r5_ r11_).bind fun r12_ =>
          cond (!r12_) (
            some false) (
            laws_FnExactPermuteModel_j1 a0 a1 r4_ r5_ r6_ r7_ ())))))

end Go.AE.Y
