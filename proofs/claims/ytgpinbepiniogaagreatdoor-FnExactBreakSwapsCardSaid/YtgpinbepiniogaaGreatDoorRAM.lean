/-
  Models of the functions: what each computes, as a Lean function into Option. Definitions alone.
-/
import Derived.Test.YtgpinbepiniogaaGreatDoorAEx3
namespace Go.AE.Y
open Go Go.AE
set_option linter.unusedVariables false

abbrev y0_ : Ty := (.int .i64)
abbrev y1_ : Ty := (.pair y0_ (.sl (.sl y0_)))
abbrev D1_ : Type := Int × (List (List Int))
abbrev y2_ : Ty := (.pair (.sl y0_) y1_)
abbrev D2_ : Type := (List Int) × Int × (List (List Int))
abbrev y3_ : Ty := (.pair (.sl y0_) y2_)
abbrev D3_ : Type := (List Int) × (List Int) × Int × (List (List Int))
abbrev y4_ : Ty := (.pair y0_ y3_)
abbrev D4_ : Type := Int × (List Int) × (List Int) × Int × (List (List Int))
abbrev y5_ : Ty := (.pair (.sl y0_) (.sl y4_))
abbrev D5_ : Type := (List Int) × (List (Int × (List Int) × (List Int) × Int × (List (List Int))))

/-- laws.szIntS -/
noncomputable def laws_szIntS (a : List Int) (left : Int) : Option Int :=
 rq (i64 (left - (a.length:Int))) <|
 cond (decide ((left - (a.length:Int)) < (0:Int))) (
  some (-1:Int)) (
  some (left - (a.length:Int)))

/-- laws.szIntSS -/
noncomputable def laws_szIntSS_l1 (a : List (List Int)) : Int × Int → Option ((Int × Int) ⊕ Int) := fun (left1, i) =>
 cond (decide (i < (a.length:Int))) (
  rq (0 ≤ i ∧ i < a.length) <|
  (laws_szIntS (a.getD i.toNat []) left1).bind fun r1_ =>
  cond (decide (r1_ < (0:Int))) (
   some (.inr (-1:Int))) (
   rq (i64 (i + (1:Int))) <|
   some (.inl (r1_, (i + (1:Int)))))) (
  some (.inr left1))

noncomputable def laws_szIntSS (a : List (List Int)) (left : Int) : Option Int :=
 rq (i64 (left - (a.length:Int))) <|
 cond (decide ((left - (a.length:Int)) < (0:Int))) (
  some (-1:Int)) (
  loop (laws_szIntSS_l1 a) ((left - (a.length:Int)), (0:Int)))

/-- laws.szRule -/
noncomputable def laws_szRule (a : Int × (List Int) × (List Int) × Int × (List (List Int))) (left : Int) : Option Int :=
 (laws_szIntS a.2.1 left).bind fun r1_ =>
 cond (decide (r1_ < (0:Int))) (
  some (-1:Int)) (
  (laws_szIntS a.2.2.1 r1_).bind fun r2_ =>
  cond (decide (r2_ < (0:Int))) (
   some (-1:Int)) (
   (laws_szIntSS a.2.2.2.2 r2_).bind fun r3_ =>
   cond (decide (r3_ < (0:Int))) (
    some (-1:Int)) (
    some r3_)))

/-- laws.szRuleS -/
noncomputable def laws_szRuleS_l1 (a : List D4_) : Int × Int → Option ((Int × Int) ⊕ Int) := fun (left1, i) =>
 cond (decide (i < (a.length:Int))) (
  rq (0 ≤ i ∧ i < a.length) <|
  (laws_szRule (a.getD i.toNat (0, ([], ([], (0, []))))) left1).bind fun r1_ =>
  cond (decide (r1_ < (0:Int))) (
   some (.inr (-1:Int))) (
   rq (i64 (i + (1:Int))) <|
   some (.inl (r1_, (i + (1:Int)))))) (
  some (.inr left1))

noncomputable def laws_szRuleS (a : List D4_) (left : Int) : Option Int :=
 rq (i64 (left - (a.length:Int))) <|
 cond (decide ((left - (a.length:Int)) < (0:Int))) (
  some (-1:Int)) (
  loop (laws_szRuleS_l1 a) ((left - (a.length:Int)), (0:Int)))

/-- laws.szModel -/
noncomputable def laws_szModel (a : (List Int) × (List D4_)) (left : Int) : Option Int :=
 (laws_szIntS a.1 left).bind fun r1_ =>
 cond (decide (r1_ < (0:Int))) (
  some (-1:Int)) (
  (laws_szRuleS a.2 r1_).bind fun r2_ =>
  cond (decide (r2_ < (0:Int))) (
   some (-1:Int)) (
   some r2_))

/-- laws.toIntS -/
noncomputable def laws_toIntS_l1 (a : List Int) : Int × (List Int) → Option ((Int × (List Int)) ⊕ (List Int)) := fun (i, out) =>
 cond (decide (i < (a.length:Int))) (
  rq (0 ≤ i ∧ i < a.length) <|
  rq (0 ≤ i ∧ i < out.length) <|
  rq (i64 (i + (1:Int))) <|
  some (.inl ((i + (1:Int)), (out.set i.toNat (a.getD i.toNat 0))))) (
  some (.inr out))

noncomputable def laws_toIntS (a : List Int) : Option (List Int) :=
 rq (0 ≤ (a.length:Int) ∧ (a.length:Int) ≤ bound ∧ (a.length:Int) = (a.length:Int)) <|
 loop (laws_toIntS_l1 a) ((0:Int), (List.replicate (a.length:Int).toNat 0))

/-- laws.toIntSS -/
noncomputable def laws_toIntSS_l1 (a : List (List Int)) : Int × (List (List Int)) → Option ((Int × (List (List Int))) ⊕ (List (List Int))) := fun (i, out) =>
 cond (decide (i < (a.length:Int))) (
  rq (0 ≤ i ∧ i < a.length) <|
  (laws_toIntS (a.getD i.toNat [])).bind fun r2_ =>
  rq (0 ≤ i ∧ i < out.length) <|
  rq (i64 (i + (1:Int))) <|
  some (.inl ((i + (1:Int)), (out.set i.toNat r2_)))) (
  some (.inr out))

noncomputable def laws_toIntSS (a : List (List Int)) : Option (List (List Int)) :=
 rq (0 ≤ (a.length:Int) ∧ (a.length:Int) ≤ bound ∧ (a.length:Int) = (a.length:Int)) <|
 loop (laws_toIntSS_l1 a) ((0:Int), (List.replicate (a.length:Int).toNat []))

/-- laws.toRule -/
noncomputable def laws_toRule (a : Int × (List Int) × (List Int) × Int × (List (List Int))) : Option (Int × Int × (List Int) × (List Int) × (List (List Int))) :=
 (laws_toIntS a.2.1).bind fun r1_ =>
 (laws_toIntS a.2.2.1).bind fun r2_ =>
 (laws_toIntSS a.2.2.2.2).bind fun r3_ =>
 some (a.1, a.2.2.2.1, r1_, r2_, r3_)

/-- laws.toRuleS -/
noncomputable def laws_toRuleS_l1 (a : List D4_) : Int × (List D4_) → Option ((Int × (List D4_)) ⊕ (List D4_)) := fun (i, out) =>
 cond (decide (i < (a.length:Int))) (
  rq (0 ≤ i ∧ i < a.length) <|
  (laws_toRule (a.getD i.toNat (0, ([], ([], (0, [])))))).bind fun r2_ =>
  rq (0 ≤ i ∧ i < out.length) <|
  rq (i64 (i + (1:Int))) <|
  some (.inl ((i + (1:Int)), (out.set i.toNat (r2_.1, (r2_.2.2.1, (r2_.2.2.2.1, (r2_.2.1, r2_.2.2.2.2)))))))) (
  some (.inr out))

noncomputable def laws_toRuleS (a : List D4_) : Option (List D4_) :=
 rq (0 ≤ (a.length:Int) ∧ (a.length:Int) ≤ bound ∧ (a.length:Int) = (a.length:Int)) <|
 loop (laws_toRuleS_l1 a) ((0:Int), (List.replicate (a.length:Int).toNat (0, ([], ([], (0, []))))))

/-- laws.toModel -/
noncomputable def laws_toModel (a : (List Int) × (List D4_)) : Option ((List Int) × (List D4_)) :=
 (laws_toIntS a.1).bind fun r1_ =>
 (laws_toRuleS a.2).bind fun r2_ =>
 some (r1_, r2_)

/-- spec.l17OwnListListint -/
noncomputable def spec_l17OwnListListint_l1 (list_ : List (List Int)) : Int × (List (List Int)) → Option ((Int × (List (List Int))) ⊕ (List (List Int))) := fun (i, out) =>
 cond (decide (i < (list_.length:Int))) (
  rq (0 ≤ i ∧ i < list_.length) <|
  rq (([] : List Int).length + (list_.getD i.toNat []).length ≤ bound) <|
  rq (out.length + [(([] : List Int) ++ (list_.getD i.toNat []))].length ≤ bound) <|
  rq (i64 (i + (1:Int))) <|
  some (.inl ((i + (1:Int)), (out ++ [(([] : List Int) ++ (list_.getD i.toNat []))])))) (
  some (.inr out))

noncomputable def spec_l17OwnListListint (list_ : List (List Int)) : Option (List (List Int)) :=
 loop (spec_l17OwnListListint_l1 list_) ((0:Int), ([] : List (List Int)))

/-- spec.l17OwnRule -/
noncomputable def spec_l17OwnRule (x : Int × (List Int) × (List Int) × Int × (List (List Int))) : Option (Int × Int × (List Int) × (List Int) × (List (List Int))) :=
 rq (([] : List Int).length + x.2.1.length ≤ bound) <|
 rq (([] : List Int).length + x.2.2.1.length ≤ bound) <|
 (spec_l17OwnListListint x.2.2.2.2).bind fun r1_ =>
 some (x.1, x.2.2.2.1, (([] : List Int) ++ x.2.1), (([] : List Int) ++ x.2.2.1), r1_)

/-- spec.l17OwnListRule -/
noncomputable def spec_l17OwnListRule_l1 (list_ : List D4_) : Int × (List D4_) → Option ((Int × (List D4_)) ⊕ (List D4_)) := fun (i, out) =>
 cond (decide (i < (list_.length:Int))) (
  rq (0 ≤ i ∧ i < list_.length) <|
  (spec_l17OwnRule (list_.getD i.toNat (0, ([], ([], (0, [])))))).bind fun r2_ =>
  rq (out.length + [(r2_.1, (r2_.2.2.1, (r2_.2.2.2.1, (r2_.2.1, r2_.2.2.2.2))))].length ≤ bound) <|
  rq (i64 (i + (1:Int))) <|
  some (.inl ((i + (1:Int)), (out ++ [(r2_.1, (r2_.2.2.1, (r2_.2.2.2.1, (r2_.2.1, r2_.2.2.2.2))))])))) (
  some (.inr out))

noncomputable def spec_l17OwnListRule (list_ : List D4_) : Option (List D4_) :=
 loop (spec_l17OwnListRule_l1 list_) ((0:Int), ([] : List D4_))

/-- spec.l17OwnModel -/
noncomputable def spec_l17OwnModel (x : (List Int) × (List D4_)) : Option ((List Int) × (List D4_)) :=
 rq (([] : List Int).length + x.1.length ≤ bound) <|
 (spec_l17OwnListRule x.2).bind fun r1_ =>
 some ((([] : List Int) ++ x.1), r1_)

/-- spec.l6Vars -/
noncomputable def spec_l6Vars_l2 (list_ : List Int) (i : Int) : Int → Option (Int ⊕ (Int ⊕ Bool)) := fun k_ =>
 cond (decide (k_ < i)) (
  rq (0 ≤ k_ ∧ k_ < list_.length) <|
  rq (0 ≤ i ∧ i < list_.length) <|
  cond ((list_.getD k_.toNat 0) == (list_.getD i.toNat 0)) (
   some (.inr (.inr false))) (
   rq (i64 (k_ + (1:Int))) <|
   some (.inl (k_ + (1:Int))))) (
  rq (i64 (i + (1:Int))) <|
  some (.inr (.inl (i + (1:Int)))))

noncomputable def spec_l6Vars_l1 (m : (List Int) × (List D4_)) (list_ : List Int) : Int → Option (Int ⊕ Bool) := fun i =>
 cond (decide (i < (list_.length:Int))) (
  rq (0 ≤ i ∧ i < list_.length) <|
  cond (decide ((list_.getD i.toNat 0) < (0:Int))) (
   some (.inr false)) (
   rq (0 ≤ i ∧ i < list_.length) <|
   cond (decide ((m.1.length:Int) ≤ (list_.getD i.toNat 0))) (
    some (.inr false)) (
    loop (spec_l6Vars_l2 list_ i) (0:Int)))) (
  some (.inr (decide ((1:Int) ≤ (list_.length:Int)))))

noncomputable def spec_l6Vars (m : (List Int) × (List D4_)) (list_ : List Int) : Option Bool :=
 loop (spec_l6Vars_l1 m list_) (0:Int)

/-- spec.l6Linear -/
noncomputable def spec_l6Linear_l1 (r_ : Int × (List Int) × (List Int) × Int × (List (List Int))) : Int → Option (Int ⊕ Bool) := fun i =>
 cond (decide (i < (r_.2.2.1.length:Int))) (
  rq (0 ≤ i ∧ i < r_.2.2.1.length) <|
  cond (decide ((r_.2.2.1.getD i.toNat 0) < (-9:Int))) (
   some (.inr false)) (
   rq (0 ≤ i ∧ i < r_.2.2.1.length) <|
   cond (decide ((9:Int) < (r_.2.2.1.getD i.toNat 0))) (
    some (.inr false)) (
    rq (0 ≤ i ∧ i < r_.2.2.1.length) <|
    cond ((r_.2.2.1.getD i.toNat 0) == (0:Int)) (
     some (.inr false)) (
     rq (i64 (i + (1:Int))) <|
     some (.inl (i + (1:Int))))))) (
  cond ((r_.2.2.1.length:Int) == (r_.2.1.length:Int)) (
   cond (decide ((-1000:Int) ≤ r_.2.2.2.1)) (
    some (.inr (decide (r_.2.2.2.1 ≤ (1000:Int))))) (
    some (.inr false))) (
   some (.inr false)))

noncomputable def spec_l6Linear (r_ : Int × (List Int) × (List Int) × Int × (List (List Int))) : Option Bool :=
 loop (spec_l6Linear_l1 r_) (0:Int)

/-- spec.l6Table -/
noncomputable def spec_l6Table_l2 (r_ : Int × (List Int) × (List Int) × Int × (List (List Int))) (i : Int) : Int → Option (Int ⊕ (Int ⊕ Bool)) := fun k_ =>
 rq (0 ≤ i ∧ i < r_.2.2.2.2.length) <|
 cond (decide (k_ < ((r_.2.2.2.2.getD i.toNat []).length:Int))) (
  rq (0 ≤ i ∧ i < r_.2.2.2.2.length) <|
  rq (0 ≤ k_ ∧ k_ < (r_.2.2.2.2.getD i.toNat []).length) <|
  cond (decide (((r_.2.2.2.2.getD i.toNat []).getD k_.toNat 0) < (0:Int))) (
   some (.inr (.inr false))) (
   rq (0 ≤ i ∧ i < r_.2.2.2.2.length) <|
   rq (0 ≤ k_ ∧ k_ < (r_.2.2.2.2.getD i.toNat []).length) <|
   cond (decide ((3:Int) < ((r_.2.2.2.2.getD i.toNat []).getD k_.toNat 0))) (
    some (.inr (.inr false))) (
    rq (i64 (k_ + (1:Int))) <|
    some (.inl (k_ + (1:Int)))))) (
  rq (i64 (i + (1:Int))) <|
  some (.inr (.inl (i + (1:Int)))))

noncomputable def spec_l6Table_l1 (r_ : Int × (List Int) × (List Int) × Int × (List (List Int))) : Int → Option (Int ⊕ Bool) := fun i =>
 cond (decide (i < (r_.2.2.2.2.length:Int))) (
  rq (0 ≤ i ∧ i < r_.2.2.2.2.length) <|
  cond (((r_.2.2.2.2.getD i.toNat []).length:Int) != (r_.2.1.length:Int)) (
   some (.inr false)) (
   loop (spec_l6Table_l2 r_ i) (0:Int))) (
  some (.inr (decide ((r_.2.2.2.2.length:Int) ≤ (8:Int)))))

noncomputable def spec_l6Table (r_ : Int × (List Int) × (List Int) × Int × (List (List Int))) : Option Bool :=
 loop (spec_l6Table_l1 r_) (0:Int)

/-- spec.l6Rule -/
noncomputable def spec_l6Rule_j1 (r_ : Int × (List Int) × (List Int) × Int × (List (List Int))) : Unit → Option Bool := fun _ =>
 cond (r_.1 == (1:Int)) (
  (spec_l6Linear r_).bind fun r2_ =>
  some r2_) (
  cond (r_.1 == (2:Int)) (
   some true) (
   cond (r_.1 == (3:Int)) (
    (spec_l6Table r_).bind fun r3_ =>
    some r3_) (
    cond (r_.1 == (4:Int)) (
     some ((r_.2.1.length:Int) == (2:Int))) (
     some false))))

noncomputable def spec_l6Rule (m : (List Int) × (List D4_)) (r_ : Int × (List Int) × (List Int) × Int × (List (List Int))) : Option Bool :=
 (spec_l6Vars m r_.2.1).bind fun r1_ =>
 cond (!r1_) (
  some false) (
  cond (r_.1 != (1:Int)) (
   cond ((r_.2.2.1.length:Int) != (0:Int)) (
    some false) (
    cond (r_.2.2.2.1 != (0:Int)) (
     some false) (
     cond (r_.1 != (3:Int)) (
      cond ((r_.2.2.2.2.length:Int) != (0:Int)) (
       some false) (
       spec_l6Rule_j1 r_ ())) (
      spec_l6Rule_j1 r_ ())))) (
   cond (r_.1 != (3:Int)) (
    cond ((r_.2.2.2.2.length:Int) != (0:Int)) (
     some false) (
     spec_l6Rule_j1 r_ ())) (
    spec_l6Rule_j1 r_ ())))

/-- spec.ModelValid -/
noncomputable def spec_ModelValid_l1 (a0 : (List Int) × (List D4_)) : Int → Option (Int ⊕ Bool) := fun i3 =>
 cond (decide (i3 < (a0.2.length:Int))) (
  rq (0 ≤ i3 ∧ i3 < a0.2.length) <|
  (spec_l6Rule a0 (a0.2.getD i3.toNat (0, ([], ([], (0, [])))))).bind fun r2_ =>
  cond (!r2_) (
   some (.inr false)) (
   rq (i64 (i3 + (1:Int))) <|
   some (.inl (i3 + (1:Int))))) (
  some (.inr true))

noncomputable def spec_ModelValid_j1 (a0 : (List Int) × (List D4_)) : Int → Option Bool := fun i2 =>
 cond (decide ((a0.1.length:Int) < (1:Int))) (
  some false) (
  cond (decide ((5:Int) < (a0.1.length:Int))) (
   some false) (
   cond (decide ((12:Int) < i2)) (
    some false) (
    cond (decide ((8:Int) < (a0.2.length:Int))) (
     some false) (
     loop (spec_ModelValid_l1 a0) (0:Int)))))

noncomputable def spec_ModelValid_l2 (a0 : (List Int) × (List D4_)) : Int × Int → Option ((Int × Int) ⊕ Bool) := fun (i, i1) =>
 cond (decide (i1 < (a0.1.length:Int))) (
  cond (decide (i1 < (5:Int))) (
   rq (0 ≤ i1 ∧ i1 < a0.1.length) <|
   cond (decide ((a0.1.getD i1.toNat 0) < (0:Int))) (
    some (.inr false)) (
    rq (0 ≤ i1 ∧ i1 < a0.1.length) <|
    cond (decide ((3:Int) < (a0.1.getD i1.toNat 0))) (
     some (.inr false)) (
     rq (0 ≤ i1 ∧ i1 < a0.1.length) <|
     rq (i64 (i + (a0.1.getD i1.toNat 0))) <|
     rq (i64 ((i + (a0.1.getD i1.toNat 0)) + (1:Int))) <|
     rq (i64 (i1 + (1:Int))) <|
     some (.inl (((i + (a0.1.getD i1.toNat 0)) + (1:Int)), (i1 + (1:Int))))))) (
   up (spec_ModelValid_j1 a0 i))) (
  up (spec_ModelValid_j1 a0 i))

noncomputable def spec_ModelValid (a0 : (List Int) × (List D4_)) : Option Bool :=
 loop (spec_ModelValid_l2 a0) ((0:Int), (0:Int))

/-- spec.l6Copy -/
noncomputable def spec_l6Copy_j4 (m : (List Int) × (List D4_)) (i : Int) (out_1 : List D4_) : (List (List Int)) → Option ((Int × (List D4_)) ⊕ ((List Int) × (List D4_))) := fun y_43 =>
 rq (out_1.length + [((m.2.getD i.toNat (0, ([], ([], (0, []))))).1, ((([] : List Int) ++ (m.2.getD i.toNat (0, ([], ([], (0, []))))).2.1), ((([] : List Int) ++ (m.2.getD i.toNat (0, ([], ([], (0, []))))).2.2.1), ((m.2.getD i.toNat (0, ([], ([], (0, []))))).2.2.2.1, y_43))))].length ≤ bound) <|
 rq (i64 (i + (1:Int))) <|
 some (.inl ((i + (1:Int)), (out_1 ++ [((m.2.getD i.toNat (0, ([], ([], (0, []))))).1, ((([] : List Int) ++ (m.2.getD i.toNat (0, ([], ([], (0, []))))).2.1), ((([] : List Int) ++ (m.2.getD i.toNat (0, ([], ([], (0, []))))).2.2.1), ((m.2.getD i.toNat (0, ([], ([], (0, []))))).2.2.2.1, y_43))))])))

noncomputable def spec_l6Copy_l2 (m : (List Int) × (List D4_)) (i : Int) (out_1 : List D4_) : Int × (List (List Int)) → Option ((Int × (List (List Int))) ⊕ ((Int × (List D4_)) ⊕ ((List Int) × (List D4_)))) := fun (k_1, y_42) =>
 cond (decide (k_1 < ((m.2.getD i.toNat (0, ([], ([], (0, []))))).2.2.2.2.length:Int))) (
  rq (0 ≤ k_1 ∧ k_1 < (m.2.getD i.toNat (0, ([], ([], (0, []))))).2.2.2.2.length) <|
  rq (([] : List Int).length + ((m.2.getD i.toNat (0, ([], ([], (0, []))))).2.2.2.2.getD k_1.toNat []).length ≤ bound) <|
  rq (y_42.length + [(([] : List Int) ++ ((m.2.getD i.toNat (0, ([], ([], (0, []))))).2.2.2.2.getD k_1.toNat []))].length ≤ bound) <|
  rq (i64 (k_1 + (1:Int))) <|
  some (.inl ((k_1 + (1:Int)), (y_42 ++ [(([] : List Int) ++ ((m.2.getD i.toNat (0, ([], ([], (0, []))))).2.2.2.2.getD k_1.toNat []))])))) (
  up (spec_l6Copy_j4 m i out_1 y_42))

noncomputable def spec_l6Copy_j3 (m : (List Int) × (List D4_)) (i : Int) (out_1 : List D4_) : Unit → Option ((Int × (List D4_)) ⊕ ((List Int) × (List D4_))) := fun _ =>
 loop (spec_l6Copy_l2 m i out_1) ((0:Int), ([] : List (List Int)))

noncomputable def spec_l6Copy_j2 (m : (List Int) × (List D4_)) (i : Int) (out_1 : List D4_) : Unit → Option ((Int × (List D4_)) ⊕ ((List Int) × (List D4_))) := fun _ =>
 rq (([] : List Int).length + (m.2.getD i.toNat (0, ([], ([], (0, []))))).2.1.length ≤ bound) <|
 rq (([] : List Int).length + (m.2.getD i.toNat (0, ([], ([], (0, []))))).2.2.1.length ≤ bound) <|
 spec_l6Copy_j3 m i out_1 ()

noncomputable def spec_l6Copy_l1 (m : (List Int) × (List D4_)) : Int × (List D4_) → Option ((Int × (List D4_)) ⊕ ((List Int) × (List D4_))) := fun (i, out_1) =>
 cond (decide (i < (m.2.length:Int))) (
  rq (0 ≤ i ∧ i < m.2.length) <|
  spec_l6Copy_j2 m i out_1 ()) (
  some (.inr ((([] : List Int) ++ m.1), out_1)))

noncomputable def spec_l6Copy_j1 (m : (List Int) × (List D4_)) : Unit → Option ((List Int) × (List D4_)) := fun _ =>
 rq (([] : List Int).length + m.1.length ≤ bound) <|
 loop (spec_l6Copy_l1 m) ((0:Int), ([] : List D4_))

noncomputable def spec_l6Copy (m : (List Int) × (List D4_)) : Option ((List Int) × (List D4_)) :=
 spec_l6Copy_j1 m ()

/-- spec.l10Swap -/
noncomputable def spec_l10Swap_l1 (n : Int) (a : Int) (b : Int) : Int × (List Int) → Option ((Int × (List Int)) ⊕ (List Int)) := fun (i, out) =>
 cond (decide (i < n)) (
  cond (i == a) (
   rq (out.length + [b].length ≤ bound) <|
   rq (i64 (i + (1:Int))) <|
   some (.inl ((i + (1:Int)), (out ++ [b])))) (
   cond (i == b) (
    rq (out.length + [a].length ≤ bound) <|
    rq (i64 (i + (1:Int))) <|
    some (.inl ((i + (1:Int)), (out ++ [a])))) (
    rq (out.length + [i].length ≤ bound) <|
    rq (i64 (i + (1:Int))) <|
    some (.inl ((i + (1:Int)), (out ++ [i])))))) (
  some (.inr out))

noncomputable def spec_l10Swap (n : Int) (a : Int) (b : Int) : Option (List Int) :=
 loop (spec_l10Swap_l1 n a b) ((0:Int), ([] : List Int))

/-- spec.PermValid -/
noncomputable def spec_PermValid_l1 (m : (List Int) × (List D4_)) (perm : List Int) : Int → Option (Int ⊕ Bool) := fun i =>
 cond (decide (i < (perm.length:Int))) (
  rq (0 ≤ i ∧ i < m.1.length) <|
  rq (0 ≤ i ∧ i < perm.length) <|
  rq (0 ≤ (perm.getD i.toNat 0) ∧ (perm.getD i.toNat 0) < m.1.length) <|
  cond ((m.1.getD i.toNat 0) != (m.1.getD (perm.getD i.toNat 0).toNat 0)) (
   some (.inr false)) (
   rq (i64 (i + (1:Int))) <|
   some (.inl (i + (1:Int))))) (
  some (.inr true))

noncomputable def spec_PermValid (m : (List Int) × (List D4_)) (perm : List Int) : Option Bool :=
 (spec_ModelValid m).bind fun r1_ =>
 cond (!r1_) (
  some false) (
  cond ((perm.length:Int) != (m.1.length:Int)) (
   some false) (
   (spec_l6Vars m perm).bind fun r2_ =>
   cond (!r2_) (
    some false) (
    loop (spec_PermValid_l1 m perm) (0:Int))))

/-- spec.l10Rename -/
noncomputable def spec_l10Rename_l1 (r_ : Int × (List Int) × (List Int) × Int × (List (List Int))) (out_11 : List Int) : Int × (List (List Int)) → Option ((Int × (List (List Int))) ⊕ (Int × Int × (List Int) × (List Int) × (List (List Int)))) := fun (i1, out_4) =>
 cond (decide (i1 < (r_.2.2.2.2.length:Int))) (
  rq (0 ≤ i1 ∧ i1 < r_.2.2.2.2.length) <|
  rq (([] : List Int).length + (r_.2.2.2.2.getD i1.toNat []).length ≤ bound) <|
  rq (out_4.length + [(([] : List Int) ++ (r_.2.2.2.2.getD i1.toNat []))].length ≤ bound) <|
  rq (i64 (i1 + (1:Int))) <|
  some (.inl ((i1 + (1:Int)), (out_4 ++ [(([] : List Int) ++ (r_.2.2.2.2.getD i1.toNat []))])))) (
  some (.inr (r_.1, r_.2.2.2.1, out_11, (([] : List Int) ++ r_.2.2.1), out_4)))

noncomputable def spec_l10Rename_j3 (r_ : Int × (List Int) × (List Int) × Int × (List (List Int))) : (List Int) → Option (Int × Int × (List Int) × (List Int) × (List (List Int))) := fun out_11 =>
 loop (spec_l10Rename_l1 r_ out_11) ((0:Int), ([] : List (List Int)))

noncomputable def spec_l10Rename_l2 (r_ : Int × (List Int) × (List Int) × Int × (List (List Int))) (perm : List Int) : Int × (List Int) → Option ((Int × (List Int)) ⊕ (Int × Int × (List Int) × (List Int) × (List (List Int)))) := fun (i, out_1) =>
 cond (decide (i < (r_.2.1.length:Int))) (
  rq (0 ≤ i ∧ i < r_.2.1.length) <|
  rq (0 ≤ (r_.2.1.getD i.toNat 0) ∧ (r_.2.1.getD i.toNat 0) < perm.length) <|
  rq (out_1.length + [(perm.getD (r_.2.1.getD i.toNat 0).toNat 0)].length ≤ bound) <|
  rq (i64 (i + (1:Int))) <|
  some (.inl ((i + (1:Int)), (out_1 ++ [(perm.getD (r_.2.1.getD i.toNat 0).toNat 0)])))) (
  up (spec_l10Rename_j3 r_ out_1))

noncomputable def spec_l10Rename_j2 (r_ : Int × (List Int) × (List Int) × Int × (List (List Int))) (perm : List Int) : Unit → Option (Int × Int × (List Int) × (List Int) × (List (List Int))) := fun _ =>
 loop (spec_l10Rename_l2 r_ perm) ((0:Int), ([] : List Int))

noncomputable def spec_l10Rename_j1 (r_ : Int × (List Int) × (List Int) × Int × (List (List Int))) (perm : List Int) : Unit → Option (Int × Int × (List Int) × (List Int) × (List (List Int))) := fun _ =>
 rq (([] : List Int).length + r_.2.2.1.length ≤ bound) <|
 spec_l10Rename_j2 r_ perm ()

noncomputable def spec_l10Rename (r_ : Int × (List Int) × (List Int) × Int × (List (List Int))) (perm : List Int) : Option (Int × Int × (List Int) × (List Int) × (List (List Int))) :=
 spec_l10Rename_j1 r_ perm ()

/-- spec.PermuteModel -/
noncomputable def spec_PermuteModel_l1 (m : (List Int) × (List D4_)) (perm : List Int) : Int × (List D4_) → Option ((Int × (List D4_)) ⊕ (Bool × (List Int) × (List D4_))) := fun (i, out_1) =>
 cond (decide (i < (m.2.length:Int))) (
  rq (0 ≤ i ∧ i < m.2.length) <|
  (spec_l10Rename (m.2.getD i.toNat (0, ([], ([], (0, []))))) perm).bind fun r4_ =>
  rq (out_1.length + [(r4_.1, (r4_.2.2.1, (r4_.2.2.2.1, (r4_.2.1, r4_.2.2.2.2))))].length ≤ bound) <|
  rq (i64 (i + (1:Int))) <|
  some (.inl ((i + (1:Int)), (out_1 ++ [(r4_.1, (r4_.2.2.1, (r4_.2.2.2.1, (r4_.2.1, r4_.2.2.2.2))))])))) (
  some (.inr (true, (([] : List Int) ++ m.1), out_1)))

noncomputable def spec_PermuteModel (m : (List Int) × (List D4_)) (perm : List Int) : Option (Bool × (List Int) × (List D4_)) :=
 (spec_PermValid m perm).bind fun r1_ =>
 cond (!r1_) (
  some (false, ([] : List Int), ([] : List D4_))) (
  rq (([] : List Int).length + m.1.length ≤ bound) <|
  loop (spec_PermuteModel_l1 m perm) ((0:Int), ([] : List D4_)))

/-- spec.l10Order -/
noncomputable def spec_l10Order_j1 (i : Int) (out : List Int) : Int → Option ((Int × (List Int)) ⊕ (List Int)) := fun k_3 =>
 rq (0 ≤ k_3 ∧ k_3 ≤ out.length) <|
 rq (([] : List Int).length + (out.drop k_3.toNat).length ≤ bound) <|
 rq (0 ≤ k_3 ∧ k_3 ≤ out.length) <|
 rq ((out.take k_3.toNat).length + [i].length ≤ bound) <|
 rq (((out.take k_3.toNat) ++ [i]).length + (([] : List Int) ++ (out.drop k_3.toNat)).length ≤ bound) <|
 rq (i64 (i + (1:Int))) <|
 some (.inl ((i + (1:Int)), (((out.take k_3.toNat) ++ [i]) ++ (([] : List Int) ++ (out.drop k_3.toNat)))))

noncomputable def spec_l10Order_l2 (list_ : List Int) (i : Int) (out : List Int) : Int → Option (Int ⊕ ((Int × (List Int)) ⊕ (List Int))) := fun k_2 =>
 cond (decide ((0:Int) < k_2)) (
  rq (i64 (k_2 - (1:Int))) <|
  rq (0 ≤ (k_2 - (1:Int)) ∧ (k_2 - (1:Int)) < out.length) <|
  rq (0 ≤ (out.getD (k_2 - (1:Int)).toNat 0) ∧ (out.getD (k_2 - (1:Int)).toNat 0) < list_.length) <|
  rq (0 ≤ i ∧ i < list_.length) <|
  cond (decide ((list_.getD i.toNat 0) < (list_.getD (out.getD (k_2 - (1:Int)).toNat 0).toNat 0))) (
   rq (i64 (k_2 - (1:Int))) <|
   some (.inl (k_2 - (1:Int)))) (
   up (spec_l10Order_j1 i out k_2))) (
  up (spec_l10Order_j1 i out k_2))

noncomputable def spec_l10Order_l1 (list_ : List Int) : Int × (List Int) → Option ((Int × (List Int)) ⊕ (List Int)) := fun (i, out) =>
 cond (decide (i < (list_.length:Int))) (
  loop (spec_l10Order_l2 list_ i out) (out.length:Int)) (
  some (.inr out))

noncomputable def spec_l10Order (list_ : List Int) : Option (List Int) :=
 loop (spec_l10Order_l1 list_) ((0:Int), ([] : List Int))

/-- spec.l6Ints -/
noncomputable def spec_l6Ints_l1 (a : List Int) (b : List Int) : Int → Option (Int ⊕ Bool) := fun i =>
 cond (decide (i < (a.length:Int))) (
  rq (0 ≤ i ∧ i < a.length) <|
  rq (0 ≤ i ∧ i < b.length) <|
  cond ((a.getD i.toNat 0) != (b.getD i.toNat 0)) (
   some (.inr false)) (
   rq (i64 (i + (1:Int))) <|
   some (.inl (i + (1:Int))))) (
  some (.inr true))

noncomputable def spec_l6Ints (a : List Int) (b : List Int) : Option Bool :=
 cond ((a.length:Int) != (b.length:Int)) (
  some false) (
  loop (spec_l6Ints_l1 a b) (0:Int))

/-- spec.l10Less -/
noncomputable def spec_l10Less_l1 (a : List Int) (b : List Int) : Int → Option (Int ⊕ Bool) := fun i =>
 cond (decide (i < (a.length:Int))) (
  cond (decide (i < (b.length:Int))) (
   rq (0 ≤ i ∧ i < a.length) <|
   rq (0 ≤ i ∧ i < b.length) <|
   cond ((a.getD i.toNat 0) != (b.getD i.toNat 0)) (
    rq (0 ≤ i ∧ i < a.length) <|
    rq (0 ≤ i ∧ i < b.length) <|
    some (.inr (decide ((a.getD i.toNat 0) < (b.getD i.toNat 0))))) (
    rq (i64 (i + (1:Int))) <|
    some (.inl (i + (1:Int))))) (
   some (.inr false))) (
  some (.inr false))

noncomputable def spec_l10Less (a : List Int) (b : List Int) : Option Bool :=
 loop (spec_l10Less_l1 a b) (0:Int)

/-- spec.l10Insert -/
noncomputable def spec_l10Insert_j1 (row : List Int) : Bool × (List (List Int)) → Option (List (List Int)) := fun (done3, out3) =>
 cond (!done3) (
  rq (out3.length + [row].length ≤ bound) <|
  some (out3 ++ [row])) (
  some out3)

noncomputable def spec_l10Insert_j2 (rows : List (List Int)) (i : Int) : Bool × (List (List Int)) → Option ((Bool × Int × (List (List Int))) ⊕ (List (List Int))) := fun (done2, out2) =>
 rq (0 ≤ i ∧ i < rows.length) <|
 rq (out2.length + [(rows.getD i.toNat [])].length ≤ bound) <|
 rq (i64 (i + (1:Int))) <|
 some (.inl (done2, (i + (1:Int)), (out2 ++ [(rows.getD i.toNat [])])))

noncomputable def spec_l10Insert_l1 (rows : List (List Int)) (row : List Int) : Bool × Int × (List (List Int)) → Option ((Bool × Int × (List (List Int))) ⊕ (List (List Int))) := fun (done, i, out1) =>
 cond (decide (i < (rows.length:Int))) (
  rq (0 ≤ i ∧ i < rows.length) <|
  (spec_l6Ints (rows.getD i.toNat []) row).bind fun r3_ =>
  cond r3_ (
   some (.inr rows)) (
   cond (!done) (
    rq (0 ≤ i ∧ i < rows.length) <|
    (spec_l10Less row (rows.getD i.toNat [])).bind fun r4_ =>
    cond r4_ (
     rq (out1.length + [row].length ≤ bound) <|
     spec_l10Insert_j2 rows i (true, (out1 ++ [row]))) (
     spec_l10Insert_j2 rows i (done, out1))) (
    spec_l10Insert_j2 rows i (done, out1)))) (
  up (spec_l10Insert_j1 row (done, out1)))

noncomputable def spec_l10Insert (rows : List (List Int)) (row : List Int) : Option (List (List Int)) :=
 loop (spec_l10Insert_l1 rows row) (false, (0:Int), ([] : List (List Int)))

/-- spec.l10Canonical -/
noncomputable def spec_l10Canonical_j3 (i2 : Int) (i_4 : List (List Int)) : (List Int) → Option ((Int × (List (List Int))) ⊕ (Int × Int × (List (List Int)) × (List Int) × (List Int))) := fun i8 =>
 (spec_l10Insert i_4 i8).bind fun r3_ =>
 rq (i64 (i2 + (1:Int))) <|
 some (.inl ((i2 + (1:Int)), r3_))

noncomputable def spec_l10Canonical_l2 (a0 : Int × (List Int) × (List Int) × Int × (List (List Int))) (i : List Int) (i2 : Int) (i_4 : List (List Int)) : Int × (List Int) → Option ((Int × (List Int)) ⊕ ((Int × (List (List Int))) ⊕ (Int × Int × (List (List Int)) × (List Int) × (List Int)))) := fun (i6, i7) =>
 cond (decide (i6 < (i.length:Int))) (
  rq (0 ≤ i6 ∧ i6 < i.length) <|
  rq (0 ≤ i2 ∧ i2 < a0.2.2.2.2.length) <|
  rq (0 ≤ (i.getD i6.toNat 0) ∧ (i.getD i6.toNat 0) < (a0.2.2.2.2.getD i2.toNat []).length) <|
  rq (i7.length + [((a0.2.2.2.2.getD i2.toNat []).getD (i.getD i6.toNat 0).toNat 0)].length ≤ bound) <|
  rq (i64 (i6 + (1:Int))) <|
  some (.inl ((i6 + (1:Int)), (i7 ++ [((a0.2.2.2.2.getD i2.toNat []).getD (i.getD i6.toNat 0).toNat 0)])))) (
  up (spec_l10Canonical_j3 i2 i_4 i7))

noncomputable def spec_l10Canonical_l1 (a0 : Int × (List Int) × (List Int) × Int × (List (List Int))) (i : List Int) (i_11 : List Int) (i_21 : List Int) : Int × (List (List Int)) → Option ((Int × (List (List Int))) ⊕ (Int × Int × (List (List Int)) × (List Int) × (List Int))) := fun (i2, i_4) =>
 cond (decide (i2 < (a0.2.2.2.2.length:Int))) (
  loop (spec_l10Canonical_l2 a0 i i2 i_4) ((0:Int), ([] : List Int))) (
  some (.inr (a0.1, a0.2.2.2.1, i_4, i_11, i_21)))

noncomputable def spec_l10Canonical_j2 (a0 : Int × (List Int) × (List Int) × Int × (List (List Int))) (i : List Int) : (List Int) × (List Int) → Option (Int × Int × (List (List Int)) × (List Int) × (List Int)) := fun (i_11, i_21) =>
 loop (spec_l10Canonical_l1 a0 i i_11 i_21) ((0:Int), ([] : List (List Int)))

noncomputable def spec_l10Canonical_j4 (a0 : Int × (List Int) × (List Int) × Int × (List (List Int))) (i : List Int) (i1 : Int) (i_1 : List Int) (i_2 : List Int) : Unit → Option ((Int × (List Int) × (List Int)) ⊕ (Int × Int × (List (List Int)) × (List Int) × (List Int))) := fun _ =>
 cond (a0.1 == (1:Int)) (
  rq (0 ≤ i1 ∧ i1 < i.length) <|
  rq (0 ≤ (i.getD i1.toNat 0) ∧ (i.getD i1.toNat 0) < a0.2.2.1.length) <|
  rq (i_2.length + [(a0.2.2.1.getD (i.getD i1.toNat 0).toNat 0)].length ≤ bound) <|
  rq (i64 (i1 + (1:Int))) <|
  some (.inl ((i1 + (1:Int)), (i_1 ++ [(a0.2.1.getD (i.getD i1.toNat 0).toNat 0)]), (i_2 ++ [(a0.2.2.1.getD (i.getD i1.toNat 0).toNat 0)])))) (
  rq (i64 (i1 + (1:Int))) <|
  some (.inl ((i1 + (1:Int)), (i_1 ++ [(a0.2.1.getD (i.getD i1.toNat 0).toNat 0)]), i_2)))

noncomputable def spec_l10Canonical_l3 (a0 : Int × (List Int) × (List Int) × Int × (List (List Int))) (i : List Int) : Int × (List Int) × (List Int) → Option ((Int × (List Int) × (List Int)) ⊕ (Int × Int × (List (List Int)) × (List Int) × (List Int))) := fun (i1, i_1, i_2) =>
 cond (decide (i1 < (i.length:Int))) (
  rq (0 ≤ i1 ∧ i1 < i.length) <|
  rq (0 ≤ (i.getD i1.toNat 0) ∧ (i.getD i1.toNat 0) < a0.2.1.length) <|
  rq (i_1.length + [(a0.2.1.getD (i.getD i1.toNat 0).toNat 0)].length ≤ bound) <|
  spec_l10Canonical_j4 a0 i i1 i_1 i_2 ()) (
  up (spec_l10Canonical_j2 a0 i (i_1, i_2)))

noncomputable def spec_l10Canonical_j1 (a0 : Int × (List Int) × (List Int) × Int × (List (List Int))) : (List Int) → Option (Int × Int × (List (List Int)) × (List Int) × (List Int)) := fun i =>
 loop (spec_l10Canonical_l3 a0 i) ((0:Int), ([] : List Int), ([] : List Int))

noncomputable def spec_l10Canonical (a0 : Int × (List Int) × (List Int) × Int × (List (List Int))) : Option (Int × Int × (List (List Int)) × (List Int) × (List Int)) :=
 (spec_l10Order a0.2.1).bind fun r1_ =>
 cond (a0.1 == (4:Int)) (
  spec_l10Canonical_j1 a0 [(0:Int), (1:Int)]) (
  spec_l10Canonical_j1 a0 r1_)

/-- spec.l6SameRule -/
noncomputable def spec_l6SameRule_l1 (a : Int × (List Int) × (List Int) × Int × (List (List Int))) (b : Int × (List Int) × (List Int) × Int × (List (List Int))) : Int → Option (Int ⊕ Bool) := fun i =>
 cond (decide (i < (a.2.2.2.2.length:Int))) (
  rq (0 ≤ i ∧ i < a.2.2.2.2.length) <|
  rq (0 ≤ i ∧ i < b.2.2.2.2.length) <|
  (spec_l6Ints (a.2.2.2.2.getD i.toNat []) (b.2.2.2.2.getD i.toNat [])).bind fun r4_ =>
  cond (!r4_) (
   some (.inr false)) (
   rq (i64 (i + (1:Int))) <|
   some (.inl (i + (1:Int))))) (
  some (.inr true))

noncomputable def spec_l6SameRule (a : Int × (List Int) × (List Int) × Int × (List (List Int))) (b : Int × (List Int) × (List Int) × Int × (List (List Int))) : Option Bool :=
 cond (a.1 != b.1) (
  some false) (
  cond (a.2.2.2.1 != b.2.2.2.1) (
   some false) (
   (spec_l6Ints a.2.1 b.2.1).bind fun r1_ =>
   cond (!r1_) (
    some false) (
    (spec_l6Ints a.2.2.1 b.2.2.1).bind fun r2_ =>
    cond (!r2_) (
     some false) (
     cond ((a.2.2.2.2.length:Int) != (b.2.2.2.2.length:Int)) (
      some false) (
      loop (spec_l6SameRule_l1 a b) (0:Int))))))

/-- spec.l10Within -/
noncomputable def spec_l10Within_l2 (a : (List Int) × (List D4_)) (b : (List Int) × (List D4_)) (i : Int) : Bool × Int → Option ((Bool × Int) ⊕ (Int ⊕ Bool)) := fun (some_, k_) =>
 cond (decide (k_ < (b.2.length:Int))) (
  cond some_ (
   rq (i64 (k_ + (1:Int))) <|
   some (.inl (true, (k_ + (1:Int))))) (
   rq (0 ≤ i ∧ i < a.2.length) <|
   (spec_l10Canonical (a.2.getD i.toNat (0, ([], ([], (0, [])))))).bind fun r4_ =>
   rq (0 ≤ k_ ∧ k_ < b.2.length) <|
   (spec_l10Canonical (b.2.getD k_.toNat (0, ([], ([], (0, [])))))).bind fun r5_ =>
   (spec_l6SameRule (r4_.1, (r4_.2.2.2.1, (r4_.2.2.2.2, (r4_.2.1, r4_.2.2.1)))) (r5_.1, (r5_.2.2.2.1, (r5_.2.2.2.2, (r5_.2.1, r5_.2.2.1))))).bind fun r6_ =>
   rq (i64 (k_ + (1:Int))) <|
   some (.inl (r6_, (k_ + (1:Int)))))) (
  cond (!some_) (
   some (.inr (.inr false))) (
   rq (i64 (i + (1:Int))) <|
   some (.inr (.inl (i + (1:Int))))))

noncomputable def spec_l10Within_l1 (a : (List Int) × (List D4_)) (b : (List Int) × (List D4_)) : Int → Option (Int ⊕ Bool) := fun i =>
 cond (decide (i < (a.2.length:Int))) (
  loop (spec_l10Within_l2 a b i) (false, (0:Int))) (
  some (.inr true))

noncomputable def spec_l10Within (a : (List Int) × (List D4_)) (b : (List Int) × (List D4_)) : Option Bool :=
 loop (spec_l10Within_l1 a b) (0:Int)

/-- spec.SymmetryValid -/
noncomputable def spec_SymmetryValid (m : (List Int) × (List D4_)) (perm : List Int) : Option Bool :=
 (spec_PermuteModel m perm).bind fun r1_ =>
 cond r1_.1 (
  (spec_l10Within r1_.2 m).bind fun r2_ =>
  cond r2_ (
   (spec_l10Within m r1_.2).bind fun r3_ =>
   some r3_) (
   some false)) (
  some false)

/-- spec.FindSwaps -/
noncomputable def spec_FindSwaps_l2 (m : (List Int) × (List D4_)) (i : Int) : Int × (List (List Int)) → Option ((Int × (List (List Int))) ⊕ ((Int × (List (List Int))) ⊕ (List (List Int)))) := fun (k_1, out2) =>
 cond (decide (k_1 < (m.1.length:Int))) (
  (spec_l10Swap (m.1.length:Int) i k_1).bind fun r11_ =>
  (spec_SymmetryValid m r11_).bind fun r12_ =>
  cond r12_ (
   rq (out2.length + [[i, k_1]].length ≤ bound) <|
   rq (i64 (k_1 + (1:Int))) <|
   some (.inl ((k_1 + (1:Int)), (out2 ++ [[i, k_1]])))) (
   rq (i64 (k_1 + (1:Int))) <|
   some (.inl ((k_1 + (1:Int)), out2)))) (
  rq (i64 (i + (1:Int))) <|
  some (.inr (.inl ((i + (1:Int)), out2))))

noncomputable def spec_FindSwaps_l1 (m : (List Int) × (List D4_)) : Int × (List (List Int)) → Option ((Int × (List (List Int))) ⊕ (List (List Int))) := fun (i, out1) =>
 cond (decide (i < (m.1.length:Int))) (
  (spec_ModelValid m).bind fun r8_ =>
  cond r8_ (
   rq (i64 (i + (1:Int))) <|
   loop (spec_FindSwaps_l2 m i) ((i + (1:Int)), out1)) (
   some (.inr out1))) (
  some (.inr out1))

noncomputable def spec_FindSwaps (m : (List Int) × (List D4_)) : Option (List (List Int)) :=
 loop (spec_FindSwaps_l1 m) ((0:Int), ([] : List (List Int)))

/-- spec.BreakSwaps -/
noncomputable def spec_BreakSwaps_j1 (r3_ : (List Int) × (List D4_)) : (List D4_) → Option (Bool × (List Int) × (List D4_)) := fun out_11 =>
 (spec_ModelValid (r3_.1, out_11)).bind fun r5_ =>
 cond (!r5_) (
  some (false, ([] : List Int), ([] : List D4_))) (
  some (true, r3_.1, out_11))

noncomputable def spec_BreakSwaps_l1 (r3_ : (List Int) × (List D4_)) (r4_ : (List (List Int))) : Int × (List D4_) → Option ((Int × (List D4_)) ⊕ (Bool × (List Int) × (List D4_))) := fun (i, out_1) =>
 cond (decide (i < (r4_.length:Int))) (
  rq (0 ≤ i ∧ i < r4_.length) <|
  rq (0 ≤ (0:Int) ∧ (0:Int) < (r4_.getD i.toNat []).length) <|
  rq (0 ≤ i ∧ i < r4_.length) <|
  rq (0 ≤ (1:Int) ∧ (1:Int) < (r4_.getD i.toNat []).length) <|
  rq (out_1.length + [((1:Int), ([((r4_.getD i.toNat []).getD (0:Int).toNat 0), ((r4_.getD i.toNat []).getD (1:Int).toNat 0)], ([(-1:Int), (1:Int)], ((0:Int), ([] : List (List Int))))))].length ≤ bound) <|
  rq (i64 (i + (1:Int))) <|
  some (.inl ((i + (1:Int)), (out_1 ++ [((1:Int), ([((r4_.getD i.toNat []).getD (0:Int).toNat 0), ((r4_.getD i.toNat []).getD (1:Int).toNat 0)], ([(-1:Int), (1:Int)], ((0:Int), ([] : List (List Int))))))])))) (
  up (spec_BreakSwaps_j1 r3_ out_1))

noncomputable def spec_BreakSwaps (m : (List Int) × (List D4_)) : Option (Bool × (List Int) × (List D4_)) :=
 (spec_l17OwnModel m).bind fun r1_ =>
 (spec_ModelValid r1_).bind fun r2_ =>
 cond (!r2_) (
  some (false, ([] : List Int), ([] : List D4_))) (
  (spec_l6Copy r1_).bind fun r3_ =>
  (spec_FindSwaps r1_).bind fun r4_ =>
  loop (spec_BreakSwaps_l1 r3_ r4_) ((0:Int), r3_.2))

/-- impl.within -/
noncomputable def impl_within (n : Int) (low : Int) (high : Int) : Option Bool :=
 cond (decide (low ≤ n)) (
  some (decide (n ≤ high))) (
  some false)

/-- slices.Index[[]int,int] -/
noncomputable def slices_Index_int_l1 (s_ : List Int) (v : Int) : Int → Option (Int ⊕ Int) := fun i =>
 cond (decide (i < (s_.length:Int))) (
  rq (0 ≤ i ∧ i < s_.length) <|
  cond (v == (s_.getD i.toNat 0)) (
   some (.inr i)) (
   rq (i64 (i + (1:Int))) <|
   some (.inl (i + (1:Int))))) (
  some (.inr (-1:Int)))

noncomputable def slices_Index_int (s_ : List Int) (v : Int) : Option Int :=
 loop (slices_Index_int_l1 s_ v) (0:Int)

/-- slices.Contains[[]int,int] -/
noncomputable def slices_Contains_int (s_ : List Int) (v : Int) : Option Bool :=
 (slices_Index_int s_ v).bind fun r1_ =>
 some (decide ((0:Int) ≤ r1_))

/-- impl.ruleValid$1 -/
noncomputable def impl_ruleValid_1 (n : Int) : Option Bool :=
 cond (n == (0:Int)) (
  some true) (
  (impl_within n (-9:Int) (9:Int)).bind fun r1_ =>
  some (!r1_))

/-- slices.IndexFunc[[]int,int] -/
noncomputable def slices_IndexFunc_int__impl_ruleValid_1_l1 (s_ : List Int) : Int → Option (Int ⊕ Int) := fun i =>
 cond (decide (i < (s_.length:Int))) (
  rq (0 ≤ i ∧ i < s_.length) <|
  (impl_ruleValid_1 (s_.getD i.toNat 0)).bind fun r1_ =>
  cond r1_ (
   some (.inr i)) (
   rq (i64 (i + (1:Int))) <|
   some (.inl (i + (1:Int))))) (
  some (.inr (-1:Int)))

noncomputable def slices_IndexFunc_int__impl_ruleValid_1 (s_ : List Int) : Option Int :=
 loop (slices_IndexFunc_int__impl_ruleValid_1_l1 s_) (0:Int)

/-- slices.ContainsFunc[[]int,int] -/
noncomputable def slices_ContainsFunc_int__impl_ruleValid_1 (s_ : List Int) : Option Bool :=
 (slices_IndexFunc_int__impl_ruleValid_1 s_).bind fun r1_ =>
 some (decide ((0:Int) ≤ r1_))

/-- impl.ruleValid$2$1 -/
noncomputable def impl_ruleValid_2_1 (n : Int) : Option Bool :=
 (impl_within n (0:Int) (3:Int)).bind fun r1_ =>
 some (!r1_)

/-- slices.IndexFunc[[]int,int] -/
noncomputable def slices_IndexFunc_int__impl_ruleValid_2_1_l1 (s_ : List Int) : Int → Option (Int ⊕ Int) := fun i =>
 cond (decide (i < (s_.length:Int))) (
  rq (0 ≤ i ∧ i < s_.length) <|
  (impl_ruleValid_2_1 (s_.getD i.toNat 0)).bind fun r1_ =>
  cond r1_ (
   some (.inr i)) (
   rq (i64 (i + (1:Int))) <|
   some (.inl (i + (1:Int))))) (
  some (.inr (-1:Int)))

noncomputable def slices_IndexFunc_int__impl_ruleValid_2_1 (s_ : List Int) : Option Int :=
 loop (slices_IndexFunc_int__impl_ruleValid_2_1_l1 s_) (0:Int)

/-- slices.ContainsFunc[[]int,int] -/
noncomputable def slices_ContainsFunc_int__impl_ruleValid_2_1 (s_ : List Int) : Option Bool :=
 (slices_IndexFunc_int__impl_ruleValid_2_1 s_).bind fun r1_ =>
 some (decide ((0:Int) ≤ r1_))

/-- impl.ruleValid$2 -/
noncomputable def impl_ruleValid_2 (row : List Int) (o0 : Int × (List Int) × (List Int) × Int × (List (List Int))) : Option Bool :=
 cond ((row.length:Int) != (o0.2.1.length:Int)) (
  some true) (
  (slices_ContainsFunc_int__impl_ruleValid_2_1 row).bind fun r1_ =>
  some r1_)

/-- slices.IndexFunc[[][]int,[]int] -/
noncomputable def slices_IndexFunc_s_int__impl_ruleValid_2_l1 (s_ : List (List Int)) (o0 : Int × (List Int) × (List Int) × Int × (List (List Int))) : Int → Option (Int ⊕ Int) := fun i =>
 cond (decide (i < (s_.length:Int))) (
  rq (0 ≤ i ∧ i < s_.length) <|
  (impl_ruleValid_2 (s_.getD i.toNat []) o0).bind fun r1_ =>
  cond r1_ (
   some (.inr i)) (
   rq (i64 (i + (1:Int))) <|
   some (.inl (i + (1:Int))))) (
  some (.inr (-1:Int)))

noncomputable def slices_IndexFunc_s_int__impl_ruleValid_2 (s_ : List (List Int)) (o0 : Int × (List Int) × (List Int) × Int × (List (List Int))) : Option Int :=
 loop (slices_IndexFunc_s_int__impl_ruleValid_2_l1 s_ o0) (0:Int)

/-- slices.ContainsFunc[[][]int,[]int] -/
noncomputable def slices_ContainsFunc_s_int__impl_ruleValid_2 (s_ : List (List Int)) (o0 : Int × (List Int) × (List Int) × Int × (List (List Int))) : Option Bool :=
 (slices_IndexFunc_s_int__impl_ruleValid_2 s_ o0).bind fun r1_ =>
 some (decide ((0:Int) ≤ r1_))

/-- impl.ruleValid -/
noncomputable def impl_ruleValid_j1 (a0 : Int × (List Int) × (List Int) × Int × (List (List Int))) : Unit → Option (Int ⊕ Bool) := fun _ =>
 cond (a0.1 == (1:Int)) (
  cond ((a0.2.2.1.length:Int) == (a0.2.1.length:Int)) (
   (impl_within a0.2.2.2.1 (-1000:Int) (1000:Int)).bind fun r3_ =>
   cond r3_ (
    (slices_ContainsFunc_int__impl_ruleValid_1 a0.2.2.1).bind fun r4_ =>
    some (.inr (!r4_))) (
    some (.inr false))) (
   some (.inr false))) (
  cond (a0.1 == (3:Int)) (
   cond (decide ((a0.2.2.2.2.length:Int) ≤ (8:Int))) (
    (slices_ContainsFunc_s_int__impl_ruleValid_2 a0.2.2.2.2 a0).bind fun r5_ =>
    some (.inr (!r5_))) (
    some (.inr false))) (
   cond (a0.1 == (4:Int)) (
    some (.inr ((a0.2.1.length:Int) == (2:Int)))) (
    some (.inr (a0.1 == (2:Int))))))

noncomputable def impl_ruleValid_l1 (a0 : Int × (List Int) × (List Int) × Int × (List (List Int))) (a1 : Int) : Int → Option (Int ⊕ Bool) := fun i =>
 cond (decide (i < (a0.2.1.length:Int))) (
  rq (0 ≤ i ∧ i < a0.2.1.length) <|
  rq (i64 (a1 - (1:Int))) <|
  (impl_within (a0.2.1.getD i.toNat 0) (0:Int) (a1 - (1:Int))).bind fun r1_ =>
  cond (!r1_) (
   some (.inr false)) (
   rq (0 ≤ i ∧ i ≤ a0.2.1.length) <|
   (slices_Contains_int (a0.2.1.take i.toNat) (a0.2.1.getD i.toNat 0)).bind fun r2_ =>
   cond r2_ (
    some (.inr false)) (
    rq (i64 (i + (1:Int))) <|
    some (.inl (i + (1:Int)))))) (
  cond ((a0.2.1.length:Int) == (0:Int)) (
   some (.inr false)) (
   cond (a0.1 != (1:Int)) (
    cond (decide ((0:Int) < (a0.2.2.1.length:Int))) (
     some (.inr false)) (
     cond (a0.2.2.2.1 != (0:Int)) (
      some (.inr false)) (
      cond (a0.1 != (3:Int)) (
       cond (decide ((0:Int) < (a0.2.2.2.2.length:Int))) (
        some (.inr false)) (
        impl_ruleValid_j1 a0 ())) (
       impl_ruleValid_j1 a0 ())))) (
    cond (a0.1 != (3:Int)) (
     cond (decide ((0:Int) < (a0.2.2.2.2.length:Int))) (
      some (.inr false)) (
      impl_ruleValid_j1 a0 ())) (
     impl_ruleValid_j1 a0 ()))))

noncomputable def impl_ruleValid (a0 : Int × (List Int) × (List Int) × Int × (List (List Int))) (a1 : Int) : Option Bool :=
 loop (impl_ruleValid_l1 a0 a1) (0:Int)

/-- impl.ModelValid$1 -/
noncomputable def impl_ModelValid_1 (r_ : Int × (List Int) × (List Int) × Int × (List (List Int))) (o0 : (List Int) × (List D4_)) : Option Bool :=
 (impl_ruleValid r_ (o0.1.length:Int)).bind fun r1_ =>
 some (!r1_)

/-- slices.IndexFunc[[]impl.Rule,impl.Rule] -/
noncomputable def slices_IndexFunc_impl_Rule__impl_ModelValid_1_l1 (s_ : List D4_) (o0 : (List Int) × (List D4_)) : Int → Option (Int ⊕ Int) := fun i =>
 cond (decide (i < (s_.length:Int))) (
  rq (0 ≤ i ∧ i < s_.length) <|
  (impl_ModelValid_1 (s_.getD i.toNat (0, ([], ([], (0, []))))) o0).bind fun r1_ =>
  cond r1_ (
   some (.inr i)) (
   rq (i64 (i + (1:Int))) <|
   some (.inl (i + (1:Int))))) (
  some (.inr (-1:Int)))

noncomputable def slices_IndexFunc_impl_Rule__impl_ModelValid_1 (s_ : List D4_) (o0 : (List Int) × (List D4_)) : Option Int :=
 loop (slices_IndexFunc_impl_Rule__impl_ModelValid_1_l1 s_ o0) (0:Int)

/-- slices.ContainsFunc[[]impl.Rule,impl.Rule] -/
noncomputable def slices_ContainsFunc_impl_Rule__impl_ModelValid_1 (s_ : List D4_) (o0 : (List Int) × (List D4_)) : Option Bool :=
 (slices_IndexFunc_impl_Rule__impl_ModelValid_1 s_ o0).bind fun r1_ =>
 some (decide ((0:Int) ≤ r1_))

/-- impl.ModelValid -/
noncomputable def impl_ModelValid_l1 (m : (List Int) × (List D4_)) : Int × Int → Option ((Int × Int) ⊕ Bool) := fun (count, i) =>
 cond (decide (i < (m.1.length:Int))) (
  rq (0 ≤ i ∧ i < m.1.length) <|
  (impl_within (m.1.getD i.toNat 0) (0:Int) (3:Int)).bind fun r2_ =>
  cond (!r2_) (
   some (.inr false)) (
   rq (i64 ((m.1.getD i.toNat 0) + (1:Int))) <|
   rq (i64 (count + ((m.1.getD i.toNat 0) + (1:Int)))) <|
   rq (i64 (i + (1:Int))) <|
   some (.inl ((count + ((m.1.getD i.toNat 0) + (1:Int))), (i + (1:Int)))))) (
  cond (decide (count ≤ (12:Int))) (
   (slices_ContainsFunc_impl_Rule__impl_ModelValid_1 m.2 m).bind fun r3_ =>
   some (.inr (!r3_))) (
   some (.inr false)))

noncomputable def impl_ModelValid (m : (List Int) × (List D4_)) : Option Bool :=
 (impl_within (m.1.length:Int) (1:Int) (5:Int)).bind fun r1_ =>
 cond (!r1_) (
  some false) (
  cond (decide ((8:Int) < (m.2.length:Int))) (
   some false) (
   loop (impl_ModelValid_l1 m) ((0:Int), (0:Int))))

/-- slices.Clone[[]int,int] -/
noncomputable def slices_Clone_int (s_ : List Int) : Option (List Int) :=
 nt (s_ = []) (
  some ([] : List Int)) (
  rq (([] : List Int).length + s_.length ≤ bound) <|
  some (([] : List Int) ++ s_))

/-- slices.Clone[[][]int,[]int] -/
noncomputable def slices_Clone_s_int (s_ : List (List Int)) : Option (List (List Int)) :=
 nt (s_ = []) (
  some ([] : List (List Int))) (
  rq (([] : List (List Int)).length + s_.length ≤ bound) <|
  some (([] : List (List Int)) ++ s_))

/-- (impl.Rule).own -/
noncomputable def impl_Rule_own_l1 (r_ : Int × (List Int) × (List Int) × Int × (List (List Int))) (r_1 : List Int) (r_2 : List Int) (r_4 : List (List Int)) : Int × Int × (List (List Int)) → Option ((Int × Int × (List (List Int))) ⊕ (Int × Int × (List Int) × (List Int) × (List (List Int)))) := fun (i, k_, i1) =>
 cond (decide (i < (r_4.length:Int))) (
  rq (0 ≤ i ∧ i < i1.length) <|
  rq (k_ ≤ i) <|
  (slices_Clone_int (i1.getD i.toNat [])).bind fun r9_ =>
  rq (0 ≤ i ∧ i < i1.length) <|
  rq (i = k_) <|
  rq (i64 (i + (1:Int))) <|
  some (.inl ((i + (1:Int)), (k_ + 1), (i1.set i.toNat r9_)))) (
  rq (k_ = i1.length) <|
  some (.inr (r_.1, r_.2.2.2.1, r_1, r_2, i1)))

noncomputable def impl_Rule_own_j1 (r_ : Int × (List Int) × (List Int) × Int × (List (List Int))) : (List Int) × (List Int) × (List (List Int)) → Option (Int × Int × (List Int) × (List Int) × (List (List Int))) := fun (r_1, r_2, r_4) =>
 loop (impl_Rule_own_l1 r_ r_1 r_2 r_4) ((0:Int), (0:Int), r_4)

noncomputable def impl_Rule_own (r_ : Int × (List Int) × (List Int) × Int × (List (List Int))) : Option (Int × Int × (List Int) × (List Int) × (List (List Int))) :=
 (slices_Clone_int r_.2.1).bind fun r4_ =>
 (slices_Clone_int r_.2.2.1).bind fun r5_ =>
 (slices_Clone_s_int r_.2.2.2.2).bind fun r6_ =>
 impl_Rule_own_j1 r_ (r4_, r5_, r6_)

/-- (impl.Model).own -/
noncomputable def impl_Model_own_l1 (m : (List Int) × (List D4_)) (r1_ : (List Int)) : Int × (List D4_) → Option ((Int × (List D4_)) ⊕ ((List Int) × (List D4_))) := fun (i, out_1) =>
 cond (decide (i < (m.2.length:Int))) (
  rq (0 ≤ i ∧ i < m.2.length) <|
  (impl_Rule_own (m.2.getD i.toNat (0, ([], ([], (0, [])))))).bind fun r4_ =>
  rq (out_1.length + [(r4_.1, (r4_.2.2.1, (r4_.2.2.2.1, (r4_.2.1, r4_.2.2.2.2))))].length ≤ bound) <|
  rq (i64 (i + (1:Int))) <|
  some (.inl ((i + (1:Int)), (out_1 ++ [(r4_.1, (r4_.2.2.1, (r4_.2.2.2.1, (r4_.2.1, r4_.2.2.2.2))))])))) (
  some (.inr (r1_, out_1)))

noncomputable def impl_Model_own (m : (List Int) × (List D4_)) : Option ((List Int) × (List D4_)) :=
 (slices_Clone_int m.1).bind fun r1_ =>
 loop (impl_Model_own_l1 m r1_) ((0:Int), ([] : List D4_))

/-- impl.PermValid -/
noncomputable def impl_PermValid_l1 (m : (List Int) × (List D4_)) (perm : List Int) : Int → Option (Int ⊕ Bool) := fun i =>
 cond (decide (i < (perm.length:Int))) (
  rq (0 ≤ i ∧ i < perm.length) <|
  rq (i64 ((perm.length:Int) - (1:Int))) <|
  (impl_within (perm.getD i.toNat 0) (0:Int) ((perm.length:Int) - (1:Int))).bind fun r4_ =>
  cond (!r4_) (
   some (.inr false)) (
   rq (0 ≤ (perm.getD i.toNat 0) ∧ (perm.getD i.toNat 0) < m.1.length) <|
   rq (0 ≤ i ∧ i < m.1.length) <|
   cond ((m.1.getD (perm.getD i.toNat 0).toNat 0) != (m.1.getD i.toNat 0)) (
    some (.inr false)) (
    rq (0 ≤ i ∧ i ≤ perm.length) <|
    (slices_Contains_int (perm.take i.toNat) (perm.getD i.toNat 0)).bind fun r5_ =>
    cond r5_ (
     some (.inr false)) (
     rq (i64 (i + (1:Int))) <|
     some (.inl (i + (1:Int))))))) (
  some (.inr true))

noncomputable def impl_PermValid (m : (List Int) × (List D4_)) (perm : List Int) : Option Bool :=
 (impl_ModelValid m).bind fun r1_ =>
 cond (!r1_) (
  some false) (
  cond ((perm.length:Int) != (m.1.length:Int)) (
   some false) (
   loop (impl_PermValid_l1 m perm) (0:Int)))

/-- (impl.Model).permuted -/
noncomputable def impl_Model_permuted_l2 (perm : List Int) (i : Int) (i3 : List D4_) : Int × (List Int) → Option ((Int × (List Int)) ⊕ ((Int × (List D4_)) ⊕ ((List Int) × (List D4_)))) := fun (i4, i5) =>
 cond (decide (i4 < ((i3.getD i.toNat (0, ([], ([], (0, []))))).2.1.length:Int))) (
  rq (0 ≤ i4 ∧ i4 < i5.length) <|
  rq (0 ≤ (i5.getD i4.toNat 0) ∧ (i5.getD i4.toNat 0) < perm.length) <|
  rq (0 ≤ i4 ∧ i4 < i5.length) <|
  rq (i64 (i4 + (1:Int))) <|
  some (.inl ((i4 + (1:Int)), (i5.set i4.toNat (perm.getD (i5.getD i4.toNat 0).toNat 0))))) (
  rq (i64 (i + (1:Int))) <|
  some (.inr (.inl ((i + (1:Int)), (i3.set i.toNat ((i3.getD i.toNat (0, ([], ([], (0, []))))).1, (i5, (i3.getD i.toNat (0, ([], ([], (0, []))))).2.2)))))))

noncomputable def impl_Model_permuted_l1 (perm : List Int) (r1_ : (List Int) × (List D4_)) : Int × (List D4_) → Option ((Int × (List D4_)) ⊕ ((List Int) × (List D4_))) := fun (i, i3) =>
 cond (decide (i < (r1_.2.length:Int))) (
  rq (0 ≤ i ∧ i < i3.length) <|
  loop (impl_Model_permuted_l2 perm i i3) ((0:Int), (i3.getD i.toNat (0, ([], ([], (0, []))))).2.1)) (
  some (.inr (r1_.1, i3)))

noncomputable def impl_Model_permuted (m : (List Int) × (List D4_)) (perm : List Int) : Option ((List Int) × (List D4_)) :=
 (impl_Model_own m).bind fun r1_ =>
 loop (impl_Model_permuted_l1 perm r1_) ((0:Int), r1_.2)

/-- (impl.Rule).canonical$1 -/
noncomputable def impl_Rule_canonical_1 (a : Int) (b : Int) (a2 : Int × (List Int) × (List Int) × Int × (List (List Int))) : Option Int :=
 rq (0 ≤ a ∧ a < a2.2.1.length) <|
 rq (0 ≤ b ∧ b < a2.2.1.length) <|
 rq (i64 ((a2.2.1.getD a.toNat 0) - (a2.2.1.getD b.toNat 0))) <|
 some ((a2.2.1.getD a.toNat 0) - (a2.2.1.getD b.toNat 0))

/-- (impl.Rule).canonical$2 -/
noncomputable def impl_Rule_canonical_2__Rs_l1 (list_ : List Int) (o1 : List Int) : Int × (List Int) → Option ((Int × (List Int)) ⊕ (List Int)) := fun (i, out) =>
 cond (decide (i < (o1.length:Int))) (
  rq (0 ≤ i ∧ i < o1.length) <|
  rq (0 ≤ (o1.getD i.toNat 0) ∧ (o1.getD i.toNat 0) < list_.length) <|
  rq (out.length + [(list_.getD (o1.getD i.toNat 0).toNat 0)].length ≤ bound) <|
  rq (i64 (i + (1:Int))) <|
  some (.inl ((i + (1:Int)), (out ++ [(list_.getD (o1.getD i.toNat 0).toNat 0)])))) (
  some (.inr out))

noncomputable def impl_Rule_canonical_2__Rs (list_ : List Int) (o1 : List Int) : Option (List Int) :=
 loop (impl_Rule_canonical_2__Rs_l1 list_ o1) ((0:Int), ([] : List Int))

/-- cmp.isNaN[int] -/
noncomputable def cmp_isNaN_int (x : Int) : Option Bool :=
 some (x != x)

/-- cmp.Compare[int] -/
noncomputable def cmp_Compare_int (x : Int) (y : Int) : Option Int :=
 (cmp_isNaN_int x).bind fun r1_ =>
 (cmp_isNaN_int y).bind fun r2_ =>
 cond r1_ (
  cond r2_ (
   some (0:Int)) (
   some (-1:Int))) (
  cond r2_ (
   some (1:Int)) (
   cond (decide (x < y)) (
    some (-1:Int)) (
    cond (decide (y < x)) (
     some (1:Int)) (
     some (0:Int)))))

/-- slices.Compare[[]int,int] -/
noncomputable def slices_Compare_int_l1 (s1_ : List Int) (s2_ : List Int) : Int → Option (Int ⊕ Int) := fun i =>
 cond (decide (i < (s1_.length:Int))) (
  rq (0 ≤ i ∧ i < s1_.length) <|
  cond (decide ((s2_.length:Int) ≤ i)) (
   some (.inr (1:Int))) (
   rq (0 ≤ i ∧ i < s2_.length) <|
   (cmp_Compare_int (s1_.getD i.toNat 0) (s2_.getD i.toNat 0)).bind fun r1_ =>
   cond (r1_ != (0:Int)) (
    some (.inr r1_)) (
    rq (i64 (i + (1:Int))) <|
    some (.inl (i + (1:Int)))))) (
  cond (decide ((s1_.length:Int) < (s2_.length:Int))) (
   some (.inr (-1:Int))) (
   some (.inr (0:Int))))

noncomputable def slices_Compare_int (s1_ : List Int) (s2_ : List Int) : Option Int :=
 loop (slices_Compare_int_l1 s1_ s2_) (0:Int)

/-- slices.Equal[[]int,int] -/
noncomputable def slices_Equal_int_l1 (s1_ : List Int) (s2_ : List Int) : Int → Option (Int ⊕ Bool) := fun i =>
 cond (decide (i < (s1_.length:Int))) (
  rq (0 ≤ i ∧ i < s1_.length) <|
  rq (0 ≤ i ∧ i < s2_.length) <|
  cond ((s1_.getD i.toNat 0) != (s2_.getD i.toNat 0)) (
   some (.inr false)) (
   rq (i64 (i + (1:Int))) <|
   some (.inl (i + (1:Int))))) (
  some (.inr true))

noncomputable def slices_Equal_int (s1_ : List Int) (s2_ : List Int) : Option Bool :=
 cond ((s1_.length:Int) != (s2_.length:Int)) (
  some false) (
  loop (slices_Equal_int_l1 s1_ s2_) (0:Int))

/-- slices.CompactFunc[[][]int,[]int] -/
noncomputable def slices_CompactFunc_s_int__slices_Equal_int__s_j1 : Int × (List (List Int)) → Option (Int ⊕ (List (List Int))) := fun (i4, i5) =>
 rq (0 ≤ i4 ∧ i4 ≤ i5.length) <|
 rq (0 ≤ i4 ∧ i4 ≤ (i5.take i4.toNat ++ List.replicate (i5.length - i4.toNat) []).length) <|
 some (.inr ((i5.take i4.toNat ++ List.replicate (i5.length - i4.toNat) []).take i4.toNat))

noncomputable def slices_CompactFunc_s_int__slices_Equal_int__s_l2 (i : Int) : Int × Int × (List (List Int)) → Option ((Int × Int × (List (List Int))) ⊕ (Int ⊕ (List (List Int)))) := fun (i1, i2, i3) =>
 cond (decide (i2 < ((i3.length:Int) - i))) (
  rq (0 ≤ i2 ∧ i + i2 < i3.length) <|
  rq (i64 (i2 - (1:Int))) <|
  rq (0 ≤ (i2 - (1:Int)) ∧ i + (i2 - (1:Int)) < i3.length) <|
  (slices_Equal_int (i3.getD (i + i2).toNat []) (i3.getD (i + (i2 - (1:Int))).toNat [])).bind fun r5_ =>
  cond (!r5_) (
   rq (0 ≤ i2 ∧ i + i2 < i3.length) <|
   rq (0 ≤ i1 ∧ i1 < i3.length) <|
   rq (i64 (i1 + (1:Int))) <|
   rq (i64 (i2 + (1:Int))) <|
   some (.inl ((i1 + (1:Int)), (i2 + (1:Int)), (i3.set i1.toNat (i3.getD (i + i2).toNat []))))) (
   rq (i64 (i2 + (1:Int))) <|
   some (.inl (i1, (i2 + (1:Int)), i3)))) (
  up (slices_CompactFunc_s_int__slices_Equal_int__s_j1 (i1, i3)))

noncomputable def slices_CompactFunc_s_int__slices_Equal_int__s_l1 (o0 : List (List Int)) : Int → Option (Int ⊕ (List (List Int))) := fun i =>
 cond (decide (i < (o0.length:Int))) (
  rq (0 ≤ i ∧ i < o0.length) <|
  rq (i64 (i - (1:Int))) <|
  rq (0 ≤ (i - (1:Int)) ∧ (i - (1:Int)) < o0.length) <|
  (slices_Equal_int (o0.getD i.toNat []) (o0.getD (i - (1:Int)).toNat [])).bind fun r2_ =>
  cond r2_ (
   rq (0 ≤ i ∧ i ≤ o0.length) <|
   loop (slices_CompactFunc_s_int__slices_Equal_int__s_l2 i) (i, (1:Int), o0)) (
   rq (i64 (i + (1:Int))) <|
   some (.inl (i + (1:Int))))) (
  some (.inr o0))

noncomputable def slices_CompactFunc_s_int__slices_Equal_int__s (o0 : List (List Int)) : Option (List (List Int)) :=
 cond (decide ((o0.length:Int) < (2:Int))) (
  some o0) (
  loop (slices_CompactFunc_s_int__slices_Equal_int__s_l1 o0) (1:Int))

/-- (impl.Rule).canonical -/
noncomputable def impl_Rule_canonical_j4 (a0 : Int × (List Int) × (List Int) × Int × (List (List Int))) (i_1 : List Int) (i_2 : List Int) : (List (List Int)) → Option (Int × Int × (List Int) × (List Int) × (List (List Int))) := fun i_41 =>
 (sortI slices_Compare_int i_41).bind fun r9_ =>
 (slices_CompactFunc_s_int__slices_Equal_int__s r9_).bind fun r10_ =>
 some (a0.1, a0.2.2.2.1, i_1, i_2, r10_)

noncomputable def impl_Rule_canonical_l1 (a0 : Int × (List Int) × (List Int) × Int × (List (List Int))) (r2_ : List Int) (i_1 : List Int) (i_2 : List Int) : Int × (List (List Int)) → Option ((Int × (List (List Int))) ⊕ (Int × Int × (List Int) × (List Int) × (List (List Int)))) := fun (i3, i_4) =>
 cond (decide (i3 < (a0.2.2.2.2.length:Int))) (
  rq (0 ≤ i3 ∧ i3 < a0.2.2.2.2.length) <|
  (impl_Rule_canonical_2__Rs (a0.2.2.2.2.getD i3.toNat []) r2_).bind fun r8_ =>
  rq (i_4.length + [r8_].length ≤ bound) <|
  rq (i64 (i3 + (1:Int))) <|
  some (.inl ((i3 + (1:Int)), (i_4 ++ [r8_])))) (
  up (impl_Rule_canonical_j4 a0 i_1 i_2 i_4))

noncomputable def impl_Rule_canonical_j3 (a0 : Int × (List Int) × (List Int) × Int × (List (List Int))) (r2_ : List Int) (i_1 : List Int) : (List Int) → Option (Int × Int × (List Int) × (List Int) × (List (List Int))) := fun i_2 =>
 loop (impl_Rule_canonical_l1 a0 r2_ i_1 i_2) ((0:Int), ([] : List (List Int)))

noncomputable def impl_Rule_canonical_j2 (a0 : Int × (List Int) × (List Int) × Int × (List (List Int))) (r2_ : List Int) : (List Int) → Option (Int × Int × (List Int) × (List Int) × (List (List Int))) := fun i_1 =>
 cond (a0.1 == (1:Int)) (
  (impl_Rule_canonical_2__Rs a0.2.2.1 r2_).bind fun r5_ =>
  impl_Rule_canonical_j3 a0 r2_ i_1 r5_) (
  impl_Rule_canonical_j3 a0 r2_ i_1 ([] : List Int))

noncomputable def impl_Rule_canonical_j1 (a0 : Int × (List Int) × (List Int) × Int × (List (List Int))) : (List Int) → Option (Int × Int × (List Int) × (List Int) × (List (List Int))) := fun i2 =>
 (sortI (fun x_ y_ => impl_Rule_canonical_1 x_ y_ a0) i2).bind fun r2_ =>
 (impl_Rule_canonical_2__Rs a0.2.1 r2_).bind fun r4_ =>
 impl_Rule_canonical_j2 a0 r2_ r4_

noncomputable def impl_Rule_canonical_l2 (a0 : Int × (List Int) × (List Int) × Int × (List (List Int))) : Int × (List Int) → Option ((Int × (List Int)) ⊕ (Int × Int × (List Int) × (List Int) × (List (List Int)))) := fun (i, i1) =>
 cond (decide (i < (a0.2.1.length:Int))) (
  rq (i1.length + [i].length ≤ bound) <|
  rq (i64 (i + (1:Int))) <|
  some (.inl ((i + (1:Int)), (i1 ++ [i])))) (
  up (impl_Rule_canonical_j1 a0 i1))

noncomputable def impl_Rule_canonical (a0 : Int × (List Int) × (List Int) × Int × (List (List Int))) : Option (Int × Int × (List Int) × (List Int) × (List (List Int))) :=
 cond (a0.1 == (4:Int)) (
  (impl_Rule_own a0).bind fun r1_ =>
  some (r1_.1, r1_.2.1, r1_.2.2.1, r1_.2.2.2.1, r1_.2.2.2.2)) (
  loop (impl_Rule_canonical_l2 a0) ((0:Int), ([] : List Int)))

/-- impl.ruleWords -/
noncomputable def impl_ruleWords : Option (List (List UInt8)) :=
 some [([] : List UInt8), ([108, 105, 110, 101, 97, 114] : List UInt8), ([100, 105, 102, 102, 101, 114, 101, 110, 116] : List UInt8), ([116, 97, 98, 108, 101] : List UInt8), ([108, 101, 115, 115] : List UInt8)]

/-- impl.digits -/
noncomputable def impl_digits_l1 (list_ : List Int) : (List UInt8) × Int → Option (((List UInt8) × Int) ⊕ (List UInt8)) := fun (out, i) =>
 cond (decide (i < (list_.length:Int))) (
  rq (0 ≤ i ∧ i < list_.length) <|
  (itoaO (list_.getD i.toNat 0)).bind fun r1_ =>
  rq ((out).length + (r1_).length ≤ bound) <|
  rq (i64 (i + (1:Int))) <|
  some (.inl ((out ++ r1_), (i + (1:Int))))) (
  some (.inr out))

noncomputable def impl_digits (list_ : List Int) : Option (List UInt8) :=
 loop (impl_digits_l1 list_) (([] : List UInt8), (0:Int))

/-- (impl.Rule).text -/
noncomputable def impl_Rule_text_l1 (r_ : Int × (List Int) × (List Int) × Int × (List (List Int))) : (List UInt8) × Int → Option (((List UInt8) × Int) ⊕ (List UInt8)) := fun (out1, i) =>
 cond (decide (i < (r_.2.1.length:Int))) (
  rq (0 ≤ i ∧ i < r_.2.1.length) <|
  rq (0 ≤ i ∧ i < r_.2.2.1.length) <|
  (itoaO (r_.2.2.1.getD i.toNat 0)).bind fun r3_ =>
  rq ((([32] : List UInt8)).length + (r3_).length ≤ bound) <|
  rq (((([32] : List UInt8) ++ r3_)).length + (([32] : List UInt8)).length ≤ bound) <|
  (itoaO (r_.2.1.getD i.toNat 0)).bind fun r4_ =>
  rq ((((([32] : List UInt8) ++ r3_) ++ ([32] : List UInt8))).length + (r4_).length ≤ bound) <|
  rq ((out1).length + ((((([32] : List UInt8) ++ r3_) ++ ([32] : List UInt8)) ++ r4_)).length ≤ bound) <|
  rq (i64 (i + (1:Int))) <|
  some (.inl ((out1 ++ (((([32] : List UInt8) ++ r3_) ++ ([32] : List UInt8)) ++ r4_)), (i + (1:Int))))) (
  rq ((out1).length + (([32, 62, 61, 32] : List UInt8)).length ≤ bound) <|
  (itoaO r_.2.2.2.1).bind fun r5_ =>
  rq (((out1 ++ ([32, 62, 61, 32] : List UInt8))).length + (r5_).length ≤ bound) <|
  some (.inr ((out1 ++ ([32, 62, 61, 32] : List UInt8)) ++ r5_)))

noncomputable def impl_Rule_text_l2 (r_ : Int × (List Int) × (List Int) × Int × (List (List Int))) : (List UInt8) × Int → Option (((List UInt8) × Int) ⊕ (List UInt8)) := fun (out2, i1) =>
 cond (decide (i1 < (r_.2.2.2.2.length:Int))) (
  rq (0 ≤ i1 ∧ i1 < r_.2.2.2.2.length) <|
  (impl_digits (r_.2.2.2.2.getD i1.toNat [])).bind fun r7_ =>
  rq ((([32] : List UInt8)).length + (r7_).length ≤ bound) <|
  rq ((out2).length + ((([32] : List UInt8) ++ r7_)).length ≤ bound) <|
  rq (i64 (i1 + (1:Int))) <|
  some (.inl ((out2 ++ (([32] : List UInt8) ++ r7_)), (i1 + (1:Int))))) (
  some (.inr out2))

noncomputable def impl_Rule_text_j1 (r_ : Int × (List Int) × (List Int) × Int × (List (List Int))) : (List UInt8) → Option (List UInt8) := fun out =>
 cond (r_.1 == (1:Int)) (
  loop (impl_Rule_text_l1 r_) (out, (0:Int))) (
  (impl_digits r_.2.1).bind fun r6_ =>
  rq ((([32] : List UInt8)).length + (r6_).length ≤ bound) <|
  rq ((out).length + ((([32] : List UInt8) ++ r6_)).length ≤ bound) <|
  loop (impl_Rule_text_l2 r_) ((out ++ (([32] : List UInt8) ++ r6_)), (0:Int)))

noncomputable def impl_Rule_text (r_ : Int × (List Int) × (List Int) × Int × (List (List Int))) : Option (List UInt8) :=
 (impl_ruleWords).bind fun r2_ =>
 rq (0 ≤ r_.1 ∧ r_.1 < r2_.length) <|
 impl_Rule_text_j1 r_ (r2_.getD r_.1.toNat [])

/-- slices.Compact[[]string,string] -/
noncomputable def slices_Compact_string_j1 : Int × (List (List UInt8)) → Option (Int ⊕ (List (List UInt8))) := fun (k_2, s_2) =>
 rq (0 ≤ k_2 ∧ k_2 ≤ s_2.length) <|
 rq (0 ≤ k_2 ∧ k_2 ≤ (s_2.take k_2.toNat ++ List.replicate (s_2.length - k_2.toNat) []).length) <|
 some (.inr ((s_2.take k_2.toNat ++ List.replicate (s_2.length - k_2.toNat) []).take k_2.toNat))

noncomputable def slices_Compact_string_l2 (k_ : Int) : Int × Int × (List (List UInt8)) → Option ((Int × Int × (List (List UInt8))) ⊕ (Int ⊕ (List (List UInt8)))) := fun (k_1, k2_, s_1) =>
 cond (decide (k2_ < ((s_1.length:Int) - k_))) (
  rq (0 ≤ k2_ ∧ k_ + k2_ < s_1.length) <|
  rq (i64 (k2_ - (1:Int))) <|
  rq (0 ≤ (k2_ - (1:Int)) ∧ k_ + (k2_ - (1:Int)) < s_1.length) <|
  cond ((s_1.getD (k_ + k2_).toNat []) != (s_1.getD (k_ + (k2_ - (1:Int))).toNat [])) (
   rq (0 ≤ k2_ ∧ k_ + k2_ < s_1.length) <|
   rq (0 ≤ k_1 ∧ k_1 < s_1.length) <|
   rq (i64 (k_1 + (1:Int))) <|
   rq (i64 (k2_ + (1:Int))) <|
   some (.inl ((k_1 + (1:Int)), (k2_ + (1:Int)), (s_1.set k_1.toNat (s_1.getD (k_ + k2_).toNat []))))) (
   rq (i64 (k2_ + (1:Int))) <|
   some (.inl (k_1, (k2_ + (1:Int)), s_1)))) (
  up (slices_Compact_string_j1 (k_1, s_1)))

noncomputable def slices_Compact_string_l1 (s_ : List (List UInt8)) : Int → Option (Int ⊕ (List (List UInt8))) := fun k_ =>
 cond (decide (k_ < (s_.length:Int))) (
  rq (0 ≤ k_ ∧ k_ < s_.length) <|
  rq (i64 (k_ - (1:Int))) <|
  rq (0 ≤ (k_ - (1:Int)) ∧ (k_ - (1:Int)) < s_.length) <|
  cond ((s_.getD k_.toNat []) == (s_.getD (k_ - (1:Int)).toNat [])) (
   rq (0 ≤ k_ ∧ k_ ≤ s_.length) <|
   loop (slices_Compact_string_l2 k_) (k_, (1:Int), s_)) (
   rq (i64 (k_ + (1:Int))) <|
   some (.inl (k_ + (1:Int))))) (
  some (.inr s_))

noncomputable def slices_Compact_string (s_ : List (List UInt8)) : Option (List (List UInt8)) :=
 cond (decide ((s_.length:Int) < (2:Int))) (
  some s_) (
  loop (slices_Compact_string_l1 s_) (1:Int))

/-- (impl.Model).standard -/
noncomputable def impl_Model_standard_j1 : (List (List UInt8)) → Option (List (List UInt8)) := fun out1 =>
 (sortS out1).bind fun r5_ =>
 (slices_Compact_string r5_).bind fun r6_ =>
 some r6_

noncomputable def impl_Model_standard_l1 (m : (List Int) × (List D4_)) : Int × (List (List UInt8)) → Option ((Int × (List (List UInt8))) ⊕ (List (List UInt8))) := fun (i, out) =>
 cond (decide (i < (m.2.length:Int))) (
  rq (0 ≤ i ∧ i < m.2.length) <|
  (impl_Rule_canonical (m.2.getD i.toNat (0, ([], ([], (0, [])))))).bind fun r3_ =>
  (impl_Rule_text (r3_.1, (r3_.2.2.1, (r3_.2.2.2.1, (r3_.2.1, r3_.2.2.2.2))))).bind fun r4_ =>
  rq (out.length + [r4_].length ≤ bound) <|
  rq (i64 (i + (1:Int))) <|
  some (.inl ((i + (1:Int)), (out ++ [r4_])))) (
  up (impl_Model_standard_j1 out))

noncomputable def impl_Model_standard (m : (List Int) × (List D4_)) : Option (List (List UInt8)) :=
 loop (impl_Model_standard_l1 m) ((0:Int), ([] : List (List UInt8)))

/-- slices.Equal[[]string,string] -/
noncomputable def slices_Equal_string_l1 (s1_ : List (List UInt8)) (s2_ : List (List UInt8)) : Int → Option (Int ⊕ Bool) := fun i =>
 cond (decide (i < (s1_.length:Int))) (
  rq (0 ≤ i ∧ i < s1_.length) <|
  rq (0 ≤ i ∧ i < s2_.length) <|
  cond ((s1_.getD i.toNat []) != (s2_.getD i.toNat [])) (
   some (.inr false)) (
   rq (i64 (i + (1:Int))) <|
   some (.inl (i + (1:Int))))) (
  some (.inr true))

noncomputable def slices_Equal_string (s1_ : List (List UInt8)) (s2_ : List (List UInt8)) : Option Bool :=
 cond ((s1_.length:Int) != (s2_.length:Int)) (
  some false) (
  loop (slices_Equal_string_l1 s1_ s2_) (0:Int))

/-- impl.SymmetryValid -/
noncomputable def impl_SymmetryValid (m : (List Int) × (List D4_)) (perm : List Int) : Option Bool :=
 (impl_PermValid m perm).bind fun r6_ =>
 cond r6_ (
  (impl_Model_permuted m perm).bind fun r7_ =>
  (impl_Model_standard r7_).bind fun r8_ =>
  (impl_Model_standard m).bind fun r9_ =>
  (slices_Equal_string r8_ r9_).bind fun r10_ =>
  some r10_) (
  some false)

/-- impl.FindSwaps -/
noncomputable def impl_FindSwaps_j1 (m : (List Int) × (List D4_)) (i : Int) (k_1 : Int) (out2 : List (List Int)) : (List Int) → Option ((Int × (List (List Int))) ⊕ ((Int × (List (List Int))) ⊕ (List (List Int)))) := fun perm7 =>
 rq (0 ≤ i ∧ i < perm7.length) <|
 rq (0 ≤ k_1 ∧ k_1 < (perm7.set i.toNat k_1).length) <|
 (impl_SymmetryValid m ((perm7.set i.toNat k_1).set k_1.toNat i)).bind fun r5_ =>
 cond r5_ (
  rq (out2.length + [[i, k_1]].length ≤ bound) <|
  rq (i64 (k_1 + (1:Int))) <|
  some (.inl ((k_1 + (1:Int)), (out2 ++ [[i, k_1]])))) (
  rq (i64 (k_1 + (1:Int))) <|
  some (.inl ((k_1 + (1:Int)), out2)))

noncomputable def impl_FindSwaps_l3 (m : (List Int) × (List D4_)) (i : Int) (k_1 : Int) (out2 : List (List Int)) : Int × (List Int) → Option ((Int × (List Int)) ⊕ ((Int × (List (List Int))) ⊕ ((Int × (List (List Int))) ⊕ (List (List Int))))) := fun (i4, perm6) =>
 cond (decide (i4 < (m.1.length:Int))) (
  rq (perm6.length + [i4].length ≤ bound) <|
  rq (i64 (i4 + (1:Int))) <|
  some (.inl ((i4 + (1:Int)), (perm6 ++ [i4])))) (
  up (impl_FindSwaps_j1 m i k_1 out2 perm6))

noncomputable def impl_FindSwaps_l2 (m : (List Int) × (List D4_)) (i : Int) : Int × (List (List Int)) → Option ((Int × (List (List Int))) ⊕ ((Int × (List (List Int))) ⊕ (List (List Int)))) := fun (k_1, out2) =>
 cond (decide (k_1 < (m.1.length:Int))) (
  loop (impl_FindSwaps_l3 m i k_1 out2) ((0:Int), ([] : List Int))) (
  rq (i64 (i + (1:Int))) <|
  some (.inr (.inl ((i + (1:Int)), out2))))

noncomputable def impl_FindSwaps_l1 (m : (List Int) × (List D4_)) : Int × (List (List Int)) → Option ((Int × (List (List Int))) ⊕ (List (List Int))) := fun (i, out1) =>
 cond (decide (i < (m.1.length:Int))) (
  rq (i64 (i + (1:Int))) <|
  loop (impl_FindSwaps_l2 m i) ((i + (1:Int)), out1)) (
  some (.inr out1))

noncomputable def impl_FindSwaps (m : (List Int) × (List D4_)) : Option (List (List Int)) :=
 (impl_ModelValid m).bind fun r1_ =>
 cond (!r1_) (
  some ([] : List (List Int))) (
  loop (impl_FindSwaps_l1 m) ((0:Int), ([] : List (List Int))))

/-- impl.BreakSwaps -/
noncomputable def impl_BreakSwaps_j1 (r2_ : (List Int) × (List D4_)) : (List D4_) → Option (Bool × (List Int) × (List D4_)) := fun out_11 =>
 cond (decide ((8:Int) < (out_11.length:Int))) (
  some (false, ([] : List Int), ([] : List D4_))) (
  some (true, r2_.1, out_11))

noncomputable def impl_BreakSwaps_l1 (r2_ : (List Int) × (List D4_)) (r3_ : (List (List Int))) : Int × Int × (List D4_) → Option ((Int × Int × (List D4_)) ⊕ (Bool × (List Int) × (List D4_))) := fun (i, k_, out_1) =>
 cond (decide (i < (r3_.length:Int))) (
  rq (0 ≤ i ∧ i < r3_.length) <|
  rq (i = k_) <|
  rq (out_1.length + [((1:Int), ((r3_.getD i.toNat []), ([(-1:Int), (1:Int)], ((0:Int), ([] : List (List Int))))))].length ≤ bound) <|
  rq (i64 (i + (1:Int))) <|
  some (.inl ((i + (1:Int)), (k_ + 1), (out_1 ++ [((1:Int), ((r3_.getD i.toNat []), ([(-1:Int), (1:Int)], ((0:Int), ([] : List (List Int))))))])))) (
  up (impl_BreakSwaps_j1 r2_ out_1))

noncomputable def impl_BreakSwaps (m : (List Int) × (List D4_)) : Option (Bool × (List Int) × (List D4_)) :=
 (impl_ModelValid m).bind fun r1_ =>
 cond (!r1_) (
  some (false, ([] : List Int), ([] : List D4_))) (
  (impl_Model_own m).bind fun r2_ =>
  (impl_FindSwaps m).bind fun r3_ =>
  loop (impl_BreakSwaps_l1 r2_ r3_) ((0:Int), (0:Int), r2_.2))

/-- laws.eqIntS -/
noncomputable def laws_eqIntS_l1 (a : List Int) (b : List Int) : Int → Option (Int ⊕ Bool) := fun i =>
 cond (decide (i < (a.length:Int))) (
  rq (0 ≤ i ∧ i < a.length) <|
  rq (0 ≤ i ∧ i < b.length) <|
  cond ((a.getD i.toNat 0) != (b.getD i.toNat 0)) (
   some (.inr false)) (
   rq (i64 (i + (1:Int))) <|
   some (.inl (i + (1:Int))))) (
  some (.inr true))

noncomputable def laws_eqIntS (a : List Int) (b : List Int) : Option Bool :=
 cond ((a.length:Int) != (b.length:Int)) (
  some false) (
  loop (laws_eqIntS_l1 a b) (0:Int))

/-- laws.eqIntSS -/
noncomputable def laws_eqIntSS_l1 (a : List (List Int)) (b : List (List Int)) : Int → Option (Int ⊕ Bool) := fun i =>
 cond (decide (i < (a.length:Int))) (
  rq (0 ≤ i ∧ i < a.length) <|
  rq (0 ≤ i ∧ i < b.length) <|
  (laws_eqIntS (a.getD i.toNat []) (b.getD i.toNat [])).bind fun r2_ =>
  cond (!r2_) (
   some (.inr false)) (
   rq (i64 (i + (1:Int))) <|
   some (.inl (i + (1:Int))))) (
  some (.inr true))

noncomputable def laws_eqIntSS (a : List (List Int)) (b : List (List Int)) : Option Bool :=
 cond ((a.length:Int) != (b.length:Int)) (
  some false) (
  loop (laws_eqIntSS_l1 a b) (0:Int))

/-- laws.eqRule -/
noncomputable def laws_eqRule (a : Int × (List Int) × (List Int) × Int × (List (List Int))) (b : Int × (List Int) × (List Int) × Int × (List (List Int))) : Option Bool :=
 cond (a.1 != b.1) (
  some false) (
  (laws_eqIntS a.2.1 b.2.1).bind fun r1_ =>
  cond (!r1_) (
   some false) (
   (laws_eqIntS a.2.2.1 b.2.2.1).bind fun r2_ =>
   cond (!r2_) (
    some false) (
    cond (a.2.2.2.1 != b.2.2.2.1) (
     some false) (
     (laws_eqIntSS a.2.2.2.2 b.2.2.2.2).bind fun r3_ =>
     cond (!r3_) (
      some false) (
      some true)))))

/-- laws.eqRuleS -/
noncomputable def laws_eqRuleS_l1 (a : List D4_) (b : List D4_) : Int → Option (Int ⊕ Bool) := fun i =>
 cond (decide (i < (a.length:Int))) (
  rq (0 ≤ i ∧ i < a.length) <|
  rq (0 ≤ i ∧ i < b.length) <|
  (laws_eqRule (a.getD i.toNat (0, ([], ([], (0, []))))) (b.getD i.toNat (0, ([], ([], (0, [])))))).bind fun r2_ =>
  cond (!r2_) (
   some (.inr false)) (
   rq (i64 (i + (1:Int))) <|
   some (.inl (i + (1:Int))))) (
  some (.inr true))

noncomputable def laws_eqRuleS (a : List D4_) (b : List D4_) : Option Bool :=
 cond ((a.length:Int) != (b.length:Int)) (
  some false) (
  loop (laws_eqRuleS_l1 a b) (0:Int))

/-- laws.eqModel -/
noncomputable def laws_eqModel (a : (List Int) × (List D4_)) (b : (List Int) × (List D4_)) : Option Bool :=
 (laws_eqIntS a.1 b.1).bind fun r1_ =>
 cond (!r1_) (
  some false) (
  (laws_eqRuleS a.2 b.2).bind fun r2_ =>
  cond (!r2_) (
   some false) (
   some true))

/-- laws.markIntS -/
noncomputable def laws_markIntS_l1 : Int × Int × (List Int) → Option ((Int × Int × (List Int)) ⊕ (Int × (List Int))) := fun (k_1, i, a1) =>
 cond (decide (i < (a1.length:Int))) (
  rq (0 ≤ i ∧ i < a1.length) <|
  rq (i64 (k_1 + (1:Int))) <|
  rq (i64 (i + (1:Int))) <|
  some (.inl ((k_1 + (1:Int)), (i + (1:Int)), (a1.set i.toNat k_1)))) (
  some (.inr (k_1, a1)))

noncomputable def laws_markIntS (k_ : Int) (a : List Int) : Option (Int × (List Int)) :=
 loop (laws_markIntS_l1) (k_, (0:Int), a)

/-- laws.markIntS -/
noncomputable def laws_markIntS__d_l1 : Int × Int × (List Int) → Option ((Int × Int × (List Int)) ⊕ (Int × (List Int))) := fun (k_1, i, a1) =>
 cond (decide (i < (a1.length:Int))) (
  rq (0 ≤ i ∧ i < a1.length) <|
  rq (i64 (k_1 + (1:Int))) <|
  rq (i64 (i + (1:Int))) <|
  some (.inl ((k_1 + (1:Int)), (i + (1:Int)), (a1.set i.toNat k_1)))) (
  some (.inr (k_1, a1)))

noncomputable def laws_markIntS__d (k_ : Int) (a : List Int) : Option (Int × (List Int)) :=
 loop (laws_markIntS__d_l1) (k_, (0:Int), a)

/-- laws.markIntSS -/
noncomputable def laws_markIntSS_l1 : Int × Int × (List (List Int)) → Option ((Int × Int × (List (List Int))) ⊕ (Int × (List (List Int)))) := fun (k_1, i, a1) =>
 cond (decide (i < (a1.length:Int))) (
  rq (0 ≤ i ∧ i < a1.length) <|
  (laws_markIntS__d k_1 (a1.getD i.toNat [])).bind fun r2_ =>
  rq (i64 (i + (1:Int))) <|
  some (.inl (r2_.1, (i + (1:Int)), (a1.set i.toNat r2_.2)))) (
  some (.inr (k_1, a1)))

noncomputable def laws_markIntSS (k_ : Int) (a : List (List Int)) : Option (Int × (List (List Int))) :=
 loop (laws_markIntSS_l1) (k_, (0:Int), a)

/-- laws.markRuleS -/
noncomputable def laws_markRuleS_j2 (i : Int) (k_3 : Int) : (List D4_) → Option ((Int × Int × (List D4_)) ⊕ (Int × (List D4_))) := fun a5 =>
 rq (i64 (k_3 + (1:Int))) <|
 rq (0 ≤ i ∧ i < a5.length) <|
 (laws_markIntSS (k_3 + (1:Int)) (a5.getD i.toNat (0, ([], ([], (0, []))))).2.2.2.2).bind fun r6_ =>
 rq (i64 (i + (1:Int))) <|
 some (.inl (r6_.1, (i + (1:Int)), (a5.set i.toNat ((a5.getD i.toNat (0, ([], ([], (0, []))))).1, ((a5.getD i.toNat (0, ([], ([], (0, []))))).2.1, ((a5.getD i.toNat (0, ([], ([], (0, []))))).2.2.1, ((a5.getD i.toNat (0, ([], ([], (0, []))))).2.2.2.1, r6_.2)))))))

noncomputable def laws_markRuleS_j1 (i : Int) : Int × (List D4_) → Option ((Int × Int × (List D4_)) ⊕ (Int × (List D4_))) := fun (k_3, a4) =>
 rq (0 ≤ i ∧ i < a4.length) <|
 laws_markRuleS_j2 i k_3 (a4.set i.toNat ((a4.getD i.toNat (0, ([], ([], (0, []))))).1, ((a4.getD i.toNat (0, ([], ([], (0, []))))).2.1, ((a4.getD i.toNat (0, ([], ([], (0, []))))).2.2.1, (k_3, (a4.getD i.toNat (0, ([], ([], (0, []))))).2.2.2.2)))))

noncomputable def laws_markRuleS_l1 : Int × Int × (List D4_) → Option ((Int × Int × (List D4_)) ⊕ (Int × (List D4_))) := fun (k_1, i, a3) =>
 cond (decide (i < (a3.length:Int))) (
  rq (0 ≤ i ∧ i < a3.length) <|
  rq (i64 (k_1 + (1:Int))) <|
  rq (0 ≤ i ∧ i < (a3.set i.toNat (k_1, (a3.getD i.toNat (0, ([], ([], (0, []))))).2)).length) <|
  (laws_markIntS__d (k_1 + (1:Int)) ((a3.set i.toNat (k_1, (a3.getD i.toNat (0, ([], ([], (0, []))))).2)).getD i.toNat (0, ([], ([], (0, []))))).2.1).bind fun r4_ =>
  rq (0 ≤ i ∧ i < (a3.set i.toNat (k_1, (a3.getD i.toNat (0, ([], ([], (0, []))))).2)).length) <|
  (laws_markIntS__d r4_.1 (((a3.set i.toNat (k_1, (a3.getD i.toNat (0, ([], ([], (0, []))))).2)).set i.toNat (((a3.set i.toNat (k_1, (a3.getD i.toNat (0, ([], ([], (0, []))))).2)).getD i.toNat (0, ([], ([], (0, []))))).1, (r4_.2, ((a3.set i.toNat (k_1, (a3.getD i.toNat (0, ([], ([], (0, []))))).2)).getD i.toNat (0, ([], ([], (0, []))))).2.2))).getD i.toNat (0, ([], ([], (0, []))))).2.2.1).bind fun r5_ =>
  laws_markRuleS_j1 i (r5_.1, (((a3.set i.toNat (k_1, (a3.getD i.toNat (0, ([], ([], (0, []))))).2)).set i.toNat (((a3.set i.toNat (k_1, (a3.getD i.toNat (0, ([], ([], (0, []))))).2)).getD i.toNat (0, ([], ([], (0, []))))).1, (r4_.2, ((a3.set i.toNat (k_1, (a3.getD i.toNat (0, ([], ([], (0, []))))).2)).getD i.toNat (0, ([], ([], (0, []))))).2.2))).set i.toNat ((((a3.set i.toNat (k_1, (a3.getD i.toNat (0, ([], ([], (0, []))))).2)).set i.toNat (((a3.set i.toNat (k_1, (a3.getD i.toNat (0, ([], ([], (0, []))))).2)).getD i.toNat (0, ([], ([], (0, []))))).1, (r4_.2, ((a3.set i.toNat (k_1, (a3.getD i.toNat (0, ([], ([], (0, []))))).2)).getD i.toNat (0, ([], ([], (0, []))))).2.2))).getD i.toNat (0, ([], ([], (0, []))))).1, ((((a3.set i.toNat (k_1, (a3.getD i.toNat (0, ([], ([], (0, []))))).2)).set i.toNat (((a3.set i.toNat (k_1, (a3.getD i.toNat (0, ([], ([], (0, []))))).2)).getD i.toNat (0, ([], ([], (0, []))))).1, (r4_.2, ((a3.set i.toNat (k_1, (a3.getD i.toNat (0, ([], ([], (0, []))))).2)).getD i.toNat (0, ([], ([], (0, []))))).2.2))).getD i.toNat (0, ([], ([], (0, []))))).2.1, (r5_.2, (((a3.set i.toNat (k_1, (a3.getD i.toNat (0, ([], ([], (0, []))))).2)).set i.toNat (((a3.set i.toNat (k_1, (a3.getD i.toNat (0, ([], ([], (0, []))))).2)).getD i.toNat (0, ([], ([], (0, []))))).1, (r4_.2, ((a3.set i.toNat (k_1, (a3.getD i.toNat (0, ([], ([], (0, []))))).2)).getD i.toNat (0, ([], ([], (0, []))))).2.2))).getD i.toNat (0, ([], ([], (0, []))))).2.2.2)))))) (
  some (.inr (k_1, a3)))

noncomputable def laws_markRuleS (k_ : Int) (a : List D4_) : Option (Int × (List D4_)) :=
 loop (laws_markRuleS_l1) (k_, (0:Int), a)

/-- laws.markModel -/
noncomputable def laws_markModel (k_ : Int) (o0 : List Int) (o1 : List D4_) : Option (Int × (List Int) × (List D4_)) :=
 (laws_markIntS k_ o0).bind fun r1_ =>
 (laws_markRuleS r1_.1 o1).bind fun r2_ =>
 some (r2_.1, r1_.2, r2_.2)

/-- laws.heldIntS -/
noncomputable def laws_heldIntS_l1 (a : List Int) : Int × Int → Option ((Int × Int) ⊕ Int) := fun (k_1, i) =>
 cond (decide (i < (a.length:Int))) (
  rq (0 ≤ i ∧ i < a.length) <|
  cond ((a.getD i.toNat 0) != k_1) (
   some (.inr (-1:Int))) (
   rq (i64 (k_1 + (1:Int))) <|
   rq (i64 (i + (1:Int))) <|
   some (.inl ((k_1 + (1:Int)), (i + (1:Int)))))) (
  some (.inr k_1))

noncomputable def laws_heldIntS (a : List Int) (k_ : Int) : Option Int :=
 loop (laws_heldIntS_l1 a) (k_, (0:Int))

/-- laws.heldIntSS -/
noncomputable def laws_heldIntSS_l1 (a : List (List Int)) : Int × Int → Option ((Int × Int) ⊕ Int) := fun (k_1, i) =>
 cond (decide (i < (a.length:Int))) (
  rq (0 ≤ i ∧ i < a.length) <|
  (laws_heldIntS (a.getD i.toNat []) k_1).bind fun r1_ =>
  cond (decide (r1_ < (0:Int))) (
   some (.inr (-1:Int))) (
   rq (i64 (i + (1:Int))) <|
   some (.inl (r1_, (i + (1:Int)))))) (
  some (.inr k_1))

noncomputable def laws_heldIntSS (a : List (List Int)) (k_ : Int) : Option Int :=
 loop (laws_heldIntSS_l1 a) (k_, (0:Int))

/-- laws.heldRuleS -/
noncomputable def laws_heldRuleS_l1 (a : List D4_) : Int × Int → Option ((Int × Int) ⊕ Int) := fun (k_1, i) =>
 cond (decide (i < (a.length:Int))) (
  rq (0 ≤ i ∧ i < a.length) <|
  cond ((a.getD i.toNat (0, ([], ([], (0, []))))).1 != k_1) (
   some (.inr (-1:Int))) (
   rq (i64 (k_1 + (1:Int))) <|
   rq (0 ≤ i ∧ i < a.length) <|
   (laws_heldIntS (a.getD i.toNat (0, ([], ([], (0, []))))).2.1 (k_1 + (1:Int))).bind fun r1_ =>
   cond (decide (r1_ < (0:Int))) (
    some (.inr (-1:Int))) (
    rq (0 ≤ i ∧ i < a.length) <|
    (laws_heldIntS (a.getD i.toNat (0, ([], ([], (0, []))))).2.2.1 r1_).bind fun r2_ =>
    cond (decide (r2_ < (0:Int))) (
     some (.inr (-1:Int))) (
     rq (0 ≤ i ∧ i < a.length) <|
     cond ((a.getD i.toNat (0, ([], ([], (0, []))))).2.2.2.1 != r2_) (
      some (.inr (-1:Int))) (
      rq (i64 (r2_ + (1:Int))) <|
      rq (0 ≤ i ∧ i < a.length) <|
      (laws_heldIntSS (a.getD i.toNat (0, ([], ([], (0, []))))).2.2.2.2 (r2_ + (1:Int))).bind fun r3_ =>
      cond (decide (r3_ < (0:Int))) (
       some (.inr (-1:Int))) (
       rq (i64 (i + (1:Int))) <|
       some (.inl (r3_, (i + (1:Int)))))))))) (
  some (.inr k_1))

noncomputable def laws_heldRuleS (a : List D4_) (k_ : Int) : Option Int :=
 loop (laws_heldRuleS_l1 a) (k_, (0:Int))

/-- laws.heldModel -/
noncomputable def laws_heldModel (a : (List Int) × (List D4_)) (k_ : Int) : Option Int :=
 (laws_heldIntS a.1 k_).bind fun r1_ =>
 cond (decide (r1_ < (0:Int))) (
  some (-1:Int)) (
  (laws_heldRuleS a.2 r1_).bind fun r2_ =>
  cond (decide (r2_ < (0:Int))) (
   some (-1:Int)) (
   some r2_))

/-- laws.FnExactBreakSwaps -/
noncomputable def laws_FnExactBreakSwaps_j1 (a0 : (List Int) × (List D4_)) (r3_ : Bool × (List Int) × (List D4_)) (r4_ : (List Int) × (List D4_)) (r5_ : Bool × (List Int) × (List D4_)) : Unit → Option Bool := fun _ =>
 (laws_markModel (1:Int) r4_.1 r4_.2).bind fun r11_ =>
 cond (decide (r11_.1 < (0:Int))) (
  some false) (
  (laws_eqModel r5_.2 r3_.2).bind fun r12_ =>
  cond (!r12_) (
   some false) (
   cond (r5_.1 != r3_.1) (
    some false) (
    (laws_markModel (1:Int) r5_.2.1 r5_.2.2).bind fun r13_ =>
    (laws_heldModel r13_.2 (1:Int)).bind fun r14_ =>
    cond (decide (r14_ < (0:Int))) (
     some false) (
     cond (r14_ != r13_.1) (
      some false) (
      (laws_toModel a0).bind fun r15_ =>
      (impl_BreakSwaps r15_).bind fun r16_ =>
      (laws_eqModel r16_.2 r3_.2).bind fun r17_ =>
      cond (!r17_) (
       some false) (
       cond (r16_.1 != r3_.1) (
        some false) (
        (laws_heldModel r13_.2 (1:Int)).bind fun r18_ =>
        cond (decide (r18_ < (0:Int))) (
         some false) (
         cond (r18_ != r13_.1) (
          some false) (
          some true)))))))))

noncomputable def laws_FnExactBreakSwaps (a0 : (List Int) × (List D4_)) : Option Bool :=
 (laws_szModel a0 (1048576:Int)).bind fun r1_ =>
 cond (decide (r1_ < (0:Int))) (
  some true) (
  (laws_toModel a0).bind fun r2_ =>
  (spec_BreakSwaps r2_).bind fun r3_ =>
  (laws_toModel a0).bind fun r4_ =>
  (impl_BreakSwaps r4_).bind fun r5_ =>
  (laws_eqModel r5_.2 r3_.2).bind fun r6_ =>
  cond (!r6_) (
   some false) (
   cond (r5_.1 != r3_.1) (
    some false) (
    (laws_toModel a0).bind fun r9_ =>
    (laws_eqModel r4_ r9_).bind fun r10_ =>
    cond (!r10_) (
     some false) (
     laws_FnExactBreakSwaps_j1 a0 r3_ r4_ r5_ ()))))

end Go.AE.Y
