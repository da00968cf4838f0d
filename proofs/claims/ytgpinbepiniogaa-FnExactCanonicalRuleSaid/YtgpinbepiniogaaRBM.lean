/-
  Models of the functions: what each computes, as a Lean function into Option. Definitions alone.
-/
import Derived.Test.YtgpinbepiniogaaAEx3
namespace Go.AE.Y
open Go Go.AE
set_option linter.unusedVariables false

abbrev y0_ : Ty := (.int .i64)
abbrev y1_ : Ty := (.pair y0_ (.sl (.sl y0_)))
abbrev D1_ : Type := Int × (List (List Int))
abbrev y2_ : Ty := (.pair (.sl y0_) y1_)
abbrev D2_ : Type := (List Int) × Int × (List (List Int))
abbrev y3_ : Ty := (.pair (.sl y0_) y2_)
abbrev D3_ : Type := (List Int) × (List Int) × Int × (List (List Int))
abbrev y4_ : Ty := (.pair y0_ y3_)
abbrev D4_ : Type := Int × (List Int) × (List Int) × Int × (List (List Int))

/-- laws.szIntS -/
noncomputable def laws_szIntS (a : List Int) (left : Int) : Option Int :=
 rq (i64 (left - (a.length:Int))) <|
 cond (decide ((left - (a.length:Int)) < (0:Int))) (
  some (-1:Int)) (
  some (left - (a.length:Int)))

/-- laws.szIntSS -/
noncomputable def laws_szIntSS_l1 (a : List (List Int)) : Int × Int → Option ((Int × Int) ⊕ Int) := fun (left1, i) =>
 cond (decide (i < (a.length:Int))) (
  rq (0 ≤ i ∧ i < a.length) <|
  (laws_szIntS (a.getD i.toNat []) left1).bind fun r1_ =>
  cond (decide (r1_ < (0:Int))) (
   some (.inr (-1:Int))) (
   rq (i64 (i + (1:Int))) <|
   some (.inl (r1_, (i + (1:Int)))))) (
  some (.inr left1))

noncomputable def laws_szIntSS (a : List (List Int)) (left : Int) : Option Int :=
 rq (i64 (left - (a.length:Int))) <|
 cond (decide ((left - (a.length:Int)) < (0:Int))) (
  some (-1:Int)) (
  loop (laws_szIntSS_l1 a) ((left - (a.length:Int)), (0:Int)))

/-- laws.szRule -/
noncomputable def laws_szRule (a : Int × (List Int) × (List Int) × Int × (List (List Int))) (left : Int) : Option Int :=
 (laws_szIntS a.2.1 left).bind fun r1_ =>
 cond (decide (r1_ < (0:Int))) (
  some (-1:Int)) (
  (laws_szIntS a.2.2.1 r1_).bind fun r2_ =>
  cond (decide (r2_ < (0:Int))) (
   some (-1:Int)) (
   (laws_szIntSS a.2.2.2.2 r2_).bind fun r3_ =>
   cond (decide (r3_ < (0:Int))) (
    some (-1:Int)) (
    some r3_)))

/-- laws.szRuleS -/
noncomputable def laws_szRuleS_l1 (a : List D4_) : Int × Int → Option ((Int × Int) ⊕ Int) := fun (left1, i) =>
 cond (decide (i < (a.length:Int))) (
  rq (0 ≤ i ∧ i < a.length) <|
  (laws_szRule (a.getD i.toNat (0, ([], ([], (0, []))))) left1).bind fun r1_ =>
  cond (decide (r1_ < (0:Int))) (
   some (.inr (-1:Int))) (
   rq (i64 (i + (1:Int))) <|
   some (.inl (r1_, (i + (1:Int)))))) (
  some (.inr left1))

noncomputable def laws_szRuleS (a : List D4_) (left : Int) : Option Int :=
 rq (i64 (left - (a.length:Int))) <|
 cond (decide ((left - (a.length:Int)) < (0:Int))) (
  some (-1:Int)) (
  loop (laws_szRuleS_l1 a) ((left - (a.length:Int)), (0:Int)))

/-- laws.szModel -/
noncomputable def laws_szModel (a : (List Int) × (List D4_)) (left : Int) : Option Int :=
 (laws_szIntS a.1 left).bind fun r1_ =>
 cond (decide (r1_ < (0:Int))) (
  some (-1:Int)) (
  (laws_szRuleS a.2 r1_).bind fun r2_ =>
  cond (decide (r2_ < (0:Int))) (
   some (-1:Int)) (
   some r2_))

/-- laws.toIntS -/
noncomputable def laws_toIntS_l1 (a : List Int) : Int × (List Int) → Option ((Int × (List Int)) ⊕ (List Int)) := fun (i, out) =>
 cond (decide (i < (a.length:Int))) (
  rq (0 ≤ i ∧ i < a.length) <|
  rq (0 ≤ i ∧ i < out.length) <|
  rq (i64 (i + (1:Int))) <|
  some (.inl ((i + (1:Int)), (out.set i.toNat (a.getD i.toNat 0))))) (
  some (.inr out))

noncomputable def laws_toIntS (a : List Int) : Option (List Int) :=
 rq (0 ≤ (a.length:Int) ∧ (a.length:Int) ≤ bound ∧ (a.length:Int) = (a.length:Int)) <|
 loop (laws_toIntS_l1 a) ((0:Int), (List.replicate (a.length:Int).toNat 0))

/-- laws.toIntSS -/
noncomputable def laws_toIntSS_l1 (a : List (List Int)) : Int × (List (List Int)) → Option ((Int × (List (List Int))) ⊕ (List (List Int))) := fun (i, out) =>
 cond (decide (i < (a.length:Int))) (
  rq (0 ≤ i ∧ i < a.length) <|
  (laws_toIntS (a.getD i.toNat [])).bind fun r2_ =>
  rq (0 ≤ i ∧ i < out.length) <|
  rq (i64 (i + (1:Int))) <|
  some (.inl ((i + (1:Int)), (out.set i.toNat r2_)))) (
  some (.inr out))

noncomputable def laws_toIntSS (a : List (List Int)) : Option (List (List Int)) :=
 rq (0 ≤ (a.length:Int) ∧ (a.length:Int) ≤ bound ∧ (a.length:Int) = (a.length:Int)) <|
 loop (laws_toIntSS_l1 a) ((0:Int), (List.replicate (a.length:Int).toNat []))

/-- laws.toRule -/
noncomputable def laws_toRule (a : Int × (List Int) × (List Int) × Int × (List (List Int))) : Option (Int × Int × (List Int) × (List Int) × (List (List Int))) :=
 (laws_toIntS a.2.1).bind fun r1_ =>
 (laws_toIntS a.2.2.1).bind fun r2_ =>
 (laws_toIntSS a.2.2.2.2).bind fun r3_ =>
 some (a.1, a.2.2.2.1, r1_, r2_, r3_)

/-- laws.toRuleS -/
noncomputable def laws_toRuleS_l1 (a : List D4_) : Int × (List D4_) → Option ((Int × (List D4_)) ⊕ (List D4_)) := fun (i, out) =>
 cond (decide (i < (a.length:Int))) (
  rq (0 ≤ i ∧ i < a.length) <|
  (laws_toRule (a.getD i.toNat (0, ([], ([], (0, [])))))).bind fun r2_ =>
  rq (0 ≤ i ∧ i < out.length) <|
  rq (i64 (i + (1:Int))) <|
  some (.inl ((i + (1:Int)), (out.set i.toNat (r2_.1, (r2_.2.2.1, (r2_.2.2.2.1, (r2_.2.1, r2_.2.2.2.2)))))))) (
  some (.inr out))

noncomputable def laws_toRuleS (a : List D4_) : Option (List D4_) :=
 rq (0 ≤ (a.length:Int) ∧ (a.length:Int) ≤ bound ∧ (a.length:Int) = (a.length:Int)) <|
 loop (laws_toRuleS_l1 a) ((0:Int), (List.replicate (a.length:Int).toNat (0, ([], ([], (0, []))))))

/-- laws.toModel -/
noncomputable def laws_toModel (a : (List Int) × (List D4_)) : Option ((List Int) × (List D4_)) :=
 (laws_toIntS a.1).bind fun r1_ =>
 (laws_toRuleS a.2).bind fun r2_ =>
 some (r1_, r2_)

/-- spec.l6Vars -/
noncomputable def spec_l6Vars_l2 (list_ : List Int) (i : Int) : Int → Option (Int ⊕ (Int ⊕ Bool)) := fun k_ =>
 cond (decide (k_ < i)) (
  rq (0 ≤ k_ ∧ k_ < list_.length) <|
  rq (0 ≤ i ∧ i < list_.length) <|
  cond ((list_.getD k_.toNat 0) == (list_.getD i.toNat 0)) (
   some (.inr (.inr false))) (
   rq (i64 (k_ + (1:Int))) <|
   some (.inl (k_ + (1:Int))))) (
  rq (i64 (i + (1:Int))) <|
  some (.inr (.inl (i + (1:Int)))))

noncomputable def spec_l6Vars_l1 (m : (List Int) × (List D4_)) (list_ : List Int) : Int → Option (Int ⊕ Bool) := fun i =>
 cond (decide (i < (list_.length:Int))) (
  rq (0 ≤ i ∧ i < list_.length) <|
  cond (decide ((list_.getD i.toNat 0) < (0:Int))) (
   some (.inr false)) (
   rq (0 ≤ i ∧ i < list_.length) <|
   cond (decide ((m.1.length:Int) ≤ (list_.getD i.toNat 0))) (
    some (.inr false)) (
    loop (spec_l6Vars_l2 list_ i) (0:Int)))) (
  some (.inr (decide ((1:Int) ≤ (list_.length:Int)))))

noncomputable def spec_l6Vars (m : (List Int) × (List D4_)) (list_ : List Int) : Option Bool :=
 loop (spec_l6Vars_l1 m list_) (0:Int)

/-- spec.l6Linear -/
noncomputable def spec_l6Linear_l1 (r_ : Int × (List Int) × (List Int) × Int × (List (List Int))) : Int → Option (Int ⊕ Bool) := fun i =>
 cond (decide (i < (r_.2.2.1.length:Int))) (
  rq (0 ≤ i ∧ i < r_.2.2.1.length) <|
  cond (decide ((r_.2.2.1.getD i.toNat 0) < (-9:Int))) (
   some (.inr false)) (
   rq (0 ≤ i ∧ i < r_.2.2.1.length) <|
   cond (decide ((9:Int) < (r_.2.2.1.getD i.toNat 0))) (
    some (.inr false)) (
    rq (0 ≤ i ∧ i < r_.2.2.1.length) <|
    cond ((r_.2.2.1.getD i.toNat 0) == (0:Int)) (
     some (.inr false)) (
     rq (i64 (i + (1:Int))) <|
     some (.inl (i + (1:Int))))))) (
  cond ((r_.2.2.1.length:Int) == (r_.2.1.length:Int)) (
   cond (decide ((-1000:Int) ≤ r_.2.2.2.1)) (
    some (.inr (decide (r_.2.2.2.1 ≤ (1000:Int))))) (
    some (.inr false))) (
   some (.inr false)))

noncomputable def spec_l6Linear (r_ : Int × (List Int) × (List Int) × Int × (List (List Int))) : Option Bool :=
 loop (spec_l6Linear_l1 r_) (0:Int)

/-- spec.l6Table -/
noncomputable def spec_l6Table_l2 (r_ : Int × (List Int) × (List Int) × Int × (List (List Int))) (i : Int) : Int → Option (Int ⊕ (Int ⊕ Bool)) := fun k_ =>
 rq (0 ≤ i ∧ i < r_.2.2.2.2.length) <|
 cond (decide (k_ < ((r_.2.2.2.2.getD i.toNat []).length:Int))) (
  rq (0 ≤ i ∧ i < r_.2.2.2.2.length) <|
  rq (0 ≤ k_ ∧ k_ < (r_.2.2.2.2.getD i.toNat []).length) <|
  cond (decide (((r_.2.2.2.2.getD i.toNat []).getD k_.toNat 0) < (0:Int))) (
   some (.inr (.inr false))) (
   rq (0 ≤ i ∧ i < r_.2.2.2.2.length) <|
   rq (0 ≤ k_ ∧ k_ < (r_.2.2.2.2.getD i.toNat []).length) <|
   cond (decide ((3:Int) < ((r_.2.2.2.2.getD i.toNat []).getD k_.toNat 0))) (
    some (.inr (.inr false))) (
    rq (i64 (k_ + (1:Int))) <|
    some (.inl (k_ + (1:Int)))))) (
  rq (i64 (i + (1:Int))) <|
  some (.inr (.inl (i + (1:Int)))))

noncomputable def spec_l6Table_l1 (r_ : Int × (List Int) × (List Int) × Int × (List (List Int))) : Int → Option (Int ⊕ Bool) := fun i =>
 cond (decide (i < (r_.2.2.2.2.length:Int))) (
  rq (0 ≤ i ∧ i < r_.2.2.2.2.length) <|
  cond (((r_.2.2.2.2.getD i.toNat []).length:Int) != (r_.2.1.length:Int)) (
   some (.inr false)) (
   loop (spec_l6Table_l2 r_ i) (0:Int))) (
  some (.inr (decide ((r_.2.2.2.2.length:Int) ≤ (8:Int)))))

noncomputable def spec_l6Table (r_ : Int × (List Int) × (List Int) × Int × (List (List Int))) : Option Bool :=
 loop (spec_l6Table_l1 r_) (0:Int)

/-- spec.l6Rule -/
noncomputable def spec_l6Rule_j1 (r_ : Int × (List Int) × (List Int) × Int × (List (List Int))) : Unit → Option Bool := fun _ =>
 cond (r_.1 == (1:Int)) (
  (spec_l6Linear r_).bind fun r2_ =>
  some r2_) (
  cond (r_.1 == (2:Int)) (
   some true) (
   cond (r_.1 == (3:Int)) (
    (spec_l6Table r_).bind fun r3_ =>
    some r3_) (
    cond (r_.1 == (4:Int)) (
     some ((r_.2.1.length:Int) == (2:Int))) (
     some false))))

noncomputable def spec_l6Rule (m : (List Int) × (List D4_)) (r_ : Int × (List Int) × (List Int) × Int × (List (List Int))) : Option Bool :=
 (spec_l6Vars m r_.2.1).bind fun r1_ =>
 cond (!r1_) (
  some false) (
  cond (r_.1 != (1:Int)) (
   cond ((r_.2.2.1.length:Int) != (0:Int)) (
    some false) (
    cond (r_.2.2.2.1 != (0:Int)) (
     some false) (
     cond (r_.1 != (3:Int)) (
      cond ((r_.2.2.2.2.length:Int) != (0:Int)) (
       some false) (
       spec_l6Rule_j1 r_ ())) (
      spec_l6Rule_j1 r_ ())))) (
   cond (r_.1 != (3:Int)) (
    cond ((r_.2.2.2.2.length:Int) != (0:Int)) (
     some false) (
     spec_l6Rule_j1 r_ ())) (
    spec_l6Rule_j1 r_ ())))

/-- spec.ModelValid -/
noncomputable def spec_ModelValid_l1 (a0 : (List Int) × (List D4_)) : Int → Option (Int ⊕ Bool) := fun i3 =>
 cond (decide (i3 < (a0.2.length:Int))) (
  rq (0 ≤ i3 ∧ i3 < a0.2.length) <|
  (spec_l6Rule a0 (a0.2.getD i3.toNat (0, ([], ([], (0, [])))))).bind fun r2_ =>
  cond (!r2_) (
   some (.inr false)) (
   rq (i64 (i3 + (1:Int))) <|
   some (.inl (i3 + (1:Int))))) (
  some (.inr true))

noncomputable def spec_ModelValid_j1 (a0 : (List Int) × (List D4_)) : Int → Option Bool := fun i2 =>
 cond (decide ((a0.1.length:Int) < (1:Int))) (
  some false) (
  cond (decide ((5:Int) < (a0.1.length:Int))) (
   some false) (
   cond (decide ((12:Int) < i2)) (
    some false) (
    cond (decide ((8:Int) < (a0.2.length:Int))) (
     some false) (
     loop (spec_ModelValid_l1 a0) (0:Int)))))

noncomputable def spec_ModelValid_l2 (a0 : (List Int) × (List D4_)) : Int × Int → Option ((Int × Int) ⊕ Bool) := fun (i, i1) =>
 cond (decide (i1 < (a0.1.length:Int))) (
  cond (decide (i1 < (5:Int))) (
   rq (0 ≤ i1 ∧ i1 < a0.1.length) <|
   cond (decide ((a0.1.getD i1.toNat 0) < (0:Int))) (
    some (.inr false)) (
    rq (0 ≤ i1 ∧ i1 < a0.1.length) <|
    cond (decide ((3:Int) < (a0.1.getD i1.toNat 0))) (
     some (.inr false)) (
     rq (0 ≤ i1 ∧ i1 < a0.1.length) <|
     rq (i64 (i + (a0.1.getD i1.toNat 0))) <|
     rq (i64 ((i + (a0.1.getD i1.toNat 0)) + (1:Int))) <|
     rq (i64 (i1 + (1:Int))) <|
     some (.inl (((i + (a0.1.getD i1.toNat 0)) + (1:Int)), (i1 + (1:Int))))))) (
   up (spec_ModelValid_j1 a0 i))) (
  up (spec_ModelValid_j1 a0 i))

noncomputable def spec_ModelValid (a0 : (List Int) × (List D4_)) : Option Bool :=
 loop (spec_ModelValid_l2 a0) ((0:Int), (0:Int))

/-- spec.l10Order -/
noncomputable def spec_l10Order_j1 (i : Int) (out : List Int) : Int → Option ((Int × (List Int)) ⊕ (List Int)) := fun k_3 =>
 rq (0 ≤ k_3 ∧ k_3 ≤ out.length) <|
 rq (([] : List Int).length + (out.drop k_3.toNat).length ≤ bound) <|
 rq (0 ≤ k_3 ∧ k_3 ≤ out.length) <|
 rq ((out.take k_3.toNat).length + [i].length ≤ bound) <|
 rq (((out.take k_3.toNat) ++ [i]).length + (([] : List Int) ++ (out.drop k_3.toNat)).length ≤ bound) <|
 rq (i64 (i + (1:Int))) <|
 some (.inl ((i + (1:Int)), (((out.take k_3.toNat) ++ [i]) ++ (([] : List Int) ++ (out.drop k_3.toNat)))))

noncomputable def spec_l10Order_l2 (list_ : List Int) (i : Int) (out : List Int) : Int → Option (Int ⊕ ((Int × (List Int)) ⊕ (List Int))) := fun k_2 =>
 cond (decide ((0:Int) < k_2)) (
  rq (i64 (k_2 - (1:Int))) <|
  rq (0 ≤ (k_2 - (1:Int)) ∧ (k_2 - (1:Int)) < out.length) <|
  rq (0 ≤ (out.getD (k_2 - (1:Int)).toNat 0) ∧ (out.getD (k_2 - (1:Int)).toNat 0) < list_.length) <|
  rq (0 ≤ i ∧ i < list_.length) <|
  cond (decide ((list_.getD i.toNat 0) < (list_.getD (out.getD (k_2 - (1:Int)).toNat 0).toNat 0))) (
   rq (i64 (k_2 - (1:Int))) <|
   some (.inl (k_2 - (1:Int)))) (
   up (spec_l10Order_j1 i out k_2))) (
  up (spec_l10Order_j1 i out k_2))

noncomputable def spec_l10Order_l1 (list_ : List Int) : Int × (List Int) → Option ((Int × (List Int)) ⊕ (List Int)) := fun (i, out) =>
 cond (decide (i < (list_.length:Int))) (
  loop (spec_l10Order_l2 list_ i out) (out.length:Int)) (
  some (.inr out))

noncomputable def spec_l10Order (list_ : List Int) : Option (List Int) :=
 loop (spec_l10Order_l1 list_) ((0:Int), ([] : List Int))

/-- spec.l6Ints -/
noncomputable def spec_l6Ints_l1 (a : List Int) (b : List Int) : Int → Option (Int ⊕ Bool) := fun i =>
 cond (decide (i < (a.length:Int))) (
  rq (0 ≤ i ∧ i < a.length) <|
  rq (0 ≤ i ∧ i < b.length) <|
  cond ((a.getD i.toNat 0) != (b.getD i.toNat 0)) (
   some (.inr false)) (
   rq (i64 (i + (1:Int))) <|
   some (.inl (i + (1:Int))))) (
  some (.inr true))

noncomputable def spec_l6Ints (a : List Int) (b : List Int) : Option Bool :=
 cond ((a.length:Int) != (b.length:Int)) (
  some false) (
  loop (spec_l6Ints_l1 a b) (0:Int))

/-- spec.l10Less -/
noncomputable def spec_l10Less_l1 (a : List Int) (b : List Int) : Int → Option (Int ⊕ Bool) := fun i =>
 cond (decide (i < (a.length:Int))) (
  cond (decide (i < (b.length:Int))) (
   rq (0 ≤ i ∧ i < a.length) <|
   rq (0 ≤ i ∧ i < b.length) <|
   cond ((a.getD i.toNat 0) != (b.getD i.toNat 0)) (
    rq (0 ≤ i ∧ i < a.length) <|
    rq (0 ≤ i ∧ i < b.length) <|
    some (.inr (decide ((a.getD i.toNat 0) < (b.getD i.toNat 0))))) (
    rq (i64 (i + (1:Int))) <|
    some (.inl (i + (1:Int))))) (
   some (.inr false))) (
  some (.inr false))

noncomputable def spec_l10Less (a : List Int) (b : List Int) : Option Bool :=
 loop (spec_l10Less_l1 a b) (0:Int)

/-- spec.l10Insert -/
noncomputable def spec_l10Insert_j1 (row : List Int) : Bool × (List (List Int)) → Option (List (List Int)) := fun (done3, out3) =>
 cond (!done3) (
  rq (out3.length + [row].length ≤ bound) <|
  some (out3 ++ [row])) (
  some out3)

noncomputable def spec_l10Insert_j2 (rows : List (List Int)) (i : Int) : Bool × (List (List Int)) → Option ((Bool × Int × (List (List Int))) ⊕ (List (List Int))) := fun (done2, out2) =>
 rq (0 ≤ i ∧ i < rows.length) <|
 rq (out2.length + [(rows.getD i.toNat [])].length ≤ bound) <|
 rq (i64 (i + (1:Int))) <|
 some (.inl (done2, (i + (1:Int)), (out2 ++ [(rows.getD i.toNat [])])))

noncomputable def spec_l10Insert_l1 (rows : List (List Int)) (row : List Int) : Bool × Int × (List (List Int)) → Option ((Bool × Int × (List (List Int))) ⊕ (List (List Int))) := fun (done, i, out1) =>
 cond (decide (i < (rows.length:Int))) (
  rq (0 ≤ i ∧ i < rows.length) <|
  (spec_l6Ints (rows.getD i.toNat []) row).bind fun r3_ =>
  cond r3_ (
   some (.inr rows)) (
   cond (!done) (
    rq (0 ≤ i ∧ i < rows.length) <|
    (spec_l10Less row (rows.getD i.toNat [])).bind fun r4_ =>
    cond r4_ (
     rq (out1.length + [row].length ≤ bound) <|
     spec_l10Insert_j2 rows i (true, (out1 ++ [row]))) (
     spec_l10Insert_j2 rows i (done, out1))) (
    spec_l10Insert_j2 rows i (done, out1)))) (
  up (spec_l10Insert_j1 row (done, out1)))

noncomputable def spec_l10Insert (rows : List (List Int)) (row : List Int) : Option (List (List Int)) :=
 loop (spec_l10Insert_l1 rows row) (false, (0:Int), ([] : List (List Int)))

/-- spec.l10Canonical -/
noncomputable def spec_l10Canonical_j3 (i2 : Int) (i_4 : List (List Int)) : (List Int) → Option ((Int × (List (List Int))) ⊕ (Int × Int × (List (List Int)) × (List Int) × (List Int))) := fun i8 =>
 (spec_l10Insert i_4 i8).bind fun r3_ =>
 rq (i64 (i2 + (1:Int))) <|
 some (.inl ((i2 + (1:Int)), r3_))

noncomputable def spec_l10Canonical_l2 (a0 : Int × (List Int) × (List Int) × Int × (List (List Int))) (i : List Int) (i2 : Int) (i_4 : List (List Int)) : Int × (List Int) → Option ((Int × (List Int)) ⊕ ((Int × (List (List Int))) ⊕ (Int × Int × (List (List Int)) × (List Int) × (List Int)))) := fun (i6, i7) =>
 cond (decide (i6 < (i.length:Int))) (
  rq (0 ≤ i6 ∧ i6 < i.length) <|
  rq (0 ≤ i2 ∧ i2 < a0.2.2.2.2.length) <|
  rq (0 ≤ (i.getD i6.toNat 0) ∧ (i.getD i6.toNat 0) < (a0.2.2.2.2.getD i2.toNat []).length) <|
  rq (i7.length + [((a0.2.2.2.2.getD i2.toNat []).getD (i.getD i6.toNat 0).toNat 0)].length ≤ bound) <|
  rq (i64 (i6 + (1:Int))) <|
  some (.inl ((i6 + (1:Int)), (i7 ++ [((a0.2.2.2.2.getD i2.toNat []).getD (i.getD i6.toNat 0).toNat 0)])))) (
  up (spec_l10Canonical_j3 i2 i_4 i7))

noncomputable def spec_l10Canonical_l1 (a0 : Int × (List Int) × (List Int) × Int × (List (List Int))) (i : List Int) (i_11 : List Int) (i_21 : List Int) : Int × (List (List Int)) → Option ((Int × (List (List Int))) ⊕ (Int × Int × (List (List Int)) × (List Int) × (List Int))) := fun (i2, i_4) =>
 cond (decide (i2 < (a0.2.2.2.2.length:Int))) (
  loop (spec_l10Canonical_l2 a0 i i2 i_4) ((0:Int), ([] : List Int))) (
  some (.inr (a0.1, a0.2.2.2.1, i_4, i_11, i_21)))

noncomputable def spec_l10Canonical_j2 (a0 : Int × (List Int) × (List Int) × Int × (List (List Int))) (i : List Int) : (List Int) × (List Int) → Option (Int × Int × (List (List Int)) × (List Int) × (List Int)) := fun (i_11, i_21) =>
 loop (spec_l10Canonical_l1 a0 i i_11 i_21) ((0:Int), ([] : List (List Int)))

noncomputable def spec_l10Canonical_j4 (a0 : Int × (List Int) × (List Int) × Int × (List (List Int))) (i : List Int) (i1 : Int) (i_1 : List Int) (i_2 : List Int) : Unit → Option ((Int × (List Int) × (List Int)) ⊕ (Int × Int × (List (List Int)) × (List Int) × (List Int))) := fun _ =>
 cond (a0.1 == (1:Int)) (
  rq (0 ≤ i1 ∧ i1 < i.length) <|
  rq (0 ≤ (i.getD i1.toNat 0) ∧ (i.getD i1.toNat 0) < a0.2.2.1.length) <|
  rq (i_2.length + [(a0.2.2.1.getD (i.getD i1.toNat 0).toNat 0)].length ≤ bound) <|
  rq (i64 (i1 + (1:Int))) <|
  some (.inl ((i1 + (1:Int)), (i_1 ++ [(a0.2.1.getD (i.getD i1.toNat 0).toNat 0)]), (i_2 ++ [(a0.2.2.1.getD (i.getD i1.toNat 0).toNat 0)])))) (
  rq (i64 (i1 + (1:Int))) <|
  some (.inl ((i1 + (1:Int)), (i_1 ++ [(a0.2.1.getD (i.getD i1.toNat 0).toNat 0)]), i_2)))

noncomputable def spec_l10Canonical_l3 (a0 : Int × (List Int) × (List Int) × Int × (List (List Int))) (i : List Int) : Int × (List Int) × (List Int) → Option ((Int × (List Int) × (List Int)) ⊕ (Int × Int × (List (List Int)) × (List Int) × (List Int))) := fun (i1, i_1, i_2) =>
 cond (decide (i1 < (i.length:Int))) (
  rq (0 ≤ i1 ∧ i1 < i.length) <|
  rq (0 ≤ (i.getD i1.toNat 0) ∧ (i.getD i1.toNat 0) < a0.2.1.length) <|
  rq (i_1.length + [(a0.2.1.getD (i.getD i1.toNat 0).toNat 0)].length ≤ bound) <|
  spec_l10Canonical_j4 a0 i i1 i_1 i_2 ()) (
  up (spec_l10Canonical_j2 a0 i (i_1, i_2)))

noncomputable def spec_l10Canonical_j1 (a0 : Int × (List Int) × (List Int) × Int × (List (List Int))) : (List Int) → Option (Int × Int × (List (List Int)) × (List Int) × (List Int)) := fun i =>
 loop (spec_l10Canonical_l3 a0 i) ((0:Int), ([] : List Int), ([] : List Int))

noncomputable def spec_l10Canonical (a0 : Int × (List Int) × (List Int) × Int × (List (List Int))) : Option (Int × Int × (List (List Int)) × (List Int) × (List Int)) :=
 (spec_l10Order a0.2.1).bind fun r1_ =>
 cond (a0.1 == (4:Int)) (
  spec_l10Canonical_j1 a0 [(0:Int), (1:Int)]) (
  spec_l10Canonical_j1 a0 r1_)

/-- spec.CanonicalRule -/
noncomputable def spec_CanonicalRule (m : (List Int) × (List D4_)) (rule : Int) : Option (Bool × Int × Int × (List (List Int)) × (List Int) × (List Int)) :=
 (spec_ModelValid m).bind fun r1_ =>
 cond (!r1_) (
  some (false, (0:Int), (0:Int), ([] : List (List Int)), ([] : List Int), ([] : List Int))) (
  cond (decide (rule < (0:Int))) (
   some (false, (0:Int), (0:Int), ([] : List (List Int)), ([] : List Int), ([] : List Int))) (
   cond (decide ((m.2.length:Int) ≤ rule)) (
    some (false, (0:Int), (0:Int), ([] : List (List Int)), ([] : List Int), ([] : List Int))) (
    rq (0 ≤ rule ∧ rule < m.2.length) <|
    (spec_l10Canonical (m.2.getD rule.toNat (0, ([], ([], (0, [])))))).bind fun r2_ =>
    some (true, r2_.1, r2_.2.1, r2_.2.2.1, r2_.2.2.2.1, r2_.2.2.2.2))))

/-- impl.within -/
noncomputable def impl_within (n : Int) (low : Int) (high : Int) : Option Bool :=
 cond (decide (low ≤ n)) (
  some (decide (n ≤ high))) (
  some false)

/-- slices.Index[[]int,int] -/
noncomputable def slices_Index_int_l1 (s_ : List Int) (v : Int) : Int → Option (Int ⊕ Int) := fun i =>
 cond (decide (i < (s_.length:Int))) (
  rq (0 ≤ i ∧ i < s_.length) <|
  cond (v == (s_.getD i.toNat 0)) (
   some (.inr i)) (
   rq (i64 (i + (1:Int))) <|
   some (.inl (i + (1:Int))))) (
  some (.inr (-1:Int)))

noncomputable def slices_Index_int (s_ : List Int) (v : Int) : Option Int :=
 loop (slices_Index_int_l1 s_ v) (0:Int)

/-- slices.Contains[[]int,int] -/
noncomputable def slices_Contains_int (s_ : List Int) (v : Int) : Option Bool :=
 (slices_Index_int s_ v).bind fun r1_ =>
 some (decide ((0:Int) ≤ r1_))

/-- impl.ruleValid$1 -/
noncomputable def impl_ruleValid_1 (n : Int) : Option Bool :=
 cond (n == (0:Int)) (
  some true) (
  (impl_within n (-9:Int) (9:Int)).bind fun r1_ =>
  some (!r1_))

/-- slices.IndexFunc[[]int,int] -/
noncomputable def slices_IndexFunc_int__impl_ruleValid_1_l1 (s_ : List Int) : Int → Option (Int ⊕ Int) := fun i =>
 cond (decide (i < (s_.length:Int))) (
  rq (0 ≤ i ∧ i < s_.length) <|
  (impl_ruleValid_1 (s_.getD i.toNat 0)).bind fun r1_ =>
  cond r1_ (
   some (.inr i)) (
   rq (i64 (i + (1:Int))) <|
   some (.inl (i + (1:Int))))) (
  some (.inr (-1:Int)))

noncomputable def slices_IndexFunc_int__impl_ruleValid_1 (s_ : List Int) : Option Int :=
 loop (slices_IndexFunc_int__impl_ruleValid_1_l1 s_) (0:Int)

/-- slices.ContainsFunc[[]int,int] -/
noncomputable def slices_ContainsFunc_int__impl_ruleValid_1 (s_ : List Int) : Option Bool :=
 (slices_IndexFunc_int__impl_ruleValid_1 s_).bind fun r1_ =>
 some (decide ((0:Int) ≤ r1_))

/-- impl.ruleValid$2$1 -/
noncomputable def impl_ruleValid_2_1 (n : Int) : Option Bool :=
 (impl_within n (0:Int) (3:Int)).bind fun r1_ =>
 some (!r1_)

/-- slices.IndexFunc[[]int,int] -/
noncomputable def slices_IndexFunc_int__impl_ruleValid_2_1_l1 (s_ : List Int) : Int → Option (Int ⊕ Int) := fun i =>
 cond (decide (i < (s_.length:Int))) (
  rq (0 ≤ i ∧ i < s_.length) <|
  (impl_ruleValid_2_1 (s_.getD i.toNat 0)).bind fun r1_ =>
  cond r1_ (
   some (.inr i)) (
   rq (i64 (i + (1:Int))) <|
   some (.inl (i + (1:Int))))) (
  some (.inr (-1:Int)))

noncomputable def slices_IndexFunc_int__impl_ruleValid_2_1 (s_ : List Int) : Option Int :=
 loop (slices_IndexFunc_int__impl_ruleValid_2_1_l1 s_) (0:Int)

/-- slices.ContainsFunc[[]int,int] -/
noncomputable def slices_ContainsFunc_int__impl_ruleValid_2_1 (s_ : List Int) : Option Bool :=
 (slices_IndexFunc_int__impl_ruleValid_2_1 s_).bind fun r1_ =>
 some (decide ((0:Int) ≤ r1_))

/-- impl.ruleValid$2 -/
noncomputable def impl_ruleValid_2 (row : List Int) (o0 : Int × (List Int) × (List Int) × Int × (List (List Int))) : Option Bool :=
 cond ((row.length:Int) != (o0.2.1.length:Int)) (
  some true) (
  (slices_ContainsFunc_int__impl_ruleValid_2_1 row).bind fun r1_ =>
  some r1_)

/-- slices.IndexFunc[[][]int,[]int] -/
noncomputable def slices_IndexFunc_s_int__impl_ruleValid_2_l1 (s_ : List (List Int)) (o0 : Int × (List Int) × (List Int) × Int × (List (List Int))) : Int → Option (Int ⊕ Int) := fun i =>
 cond (decide (i < (s_.length:Int))) (
  rq (0 ≤ i ∧ i < s_.length) <|
  (impl_ruleValid_2 (s_.getD i.toNat []) o0).bind fun r1_ =>
  cond r1_ (
   some (.inr i)) (
   rq (i64 (i + (1:Int))) <|
   some (.inl (i + (1:Int))))) (
  some (.inr (-1:Int)))

noncomputable def slices_IndexFunc_s_int__impl_ruleValid_2 (s_ : List (List Int)) (o0 : Int × (List Int) × (List Int) × Int × (List (List Int))) : Option Int :=
 loop (slices_IndexFunc_s_int__impl_ruleValid_2_l1 s_ o0) (0:Int)

/-- slices.ContainsFunc[[][]int,[]int] -/
noncomputable def slices_ContainsFunc_s_int__impl_ruleValid_2 (s_ : List (List Int)) (o0 : Int × (List Int) × (List Int) × Int × (List (List Int))) : Option Bool :=
 (slices_IndexFunc_s_int__impl_ruleValid_2 s_ o0).bind fun r1_ =>
 some (decide ((0:Int) ≤ r1_))

/-- impl.ruleValid -/
noncomputable def impl_ruleValid_j1 (a0 : Int × (List Int) × (List Int) × Int × (List (List Int))) : Unit → Option (Int ⊕ Bool) := fun _ =>
 cond (a0.1 == (1:Int)) (
  cond ((a0.2.2.1.length:Int) == (a0.2.1.length:Int)) (
   (impl_within a0.2.2.2.1 (-1000:Int) (1000:Int)).bind fun r3_ =>
   cond r3_ (
    (slices_ContainsFunc_int__impl_ruleValid_1 a0.2.2.1).bind fun r4_ =>
    some (.inr (!r4_))) (
    some (.inr false))) (
   some (.inr false))) (
  cond (a0.1 == (3:Int)) (
   cond (decide ((a0.2.2.2.2.length:Int) ≤ (8:Int))) (
    (slices_ContainsFunc_s_int__impl_ruleValid_2 a0.2.2.2.2 a0).bind fun r5_ =>
    some (.inr (!r5_))) (
    some (.inr false))) (
   cond (a0.1 == (4:Int)) (
    some (.inr ((a0.2.1.length:Int) == (2:Int)))) (
    some (.inr (a0.1 == (2:Int))))))

noncomputable def impl_ruleValid_l1 (a0 : Int × (List Int) × (List Int) × Int × (List (List Int))) (a1 : Int) : Int → Option (Int ⊕ Bool) := fun i =>
 cond (decide (i < (a0.2.1.length:Int))) (
  rq (0 ≤ i ∧ i < a0.2.1.length) <|
  rq (i64 (a1 - (1:Int))) <|
  (impl_within (a0.2.1.getD i.toNat 0) (0:Int) (a1 - (1:Int))).bind fun r1_ =>
  cond (!r1_) (
   some (.inr false)) (
   rq (0 ≤ i ∧ i ≤ a0.2.1.length) <|
   (slices_Contains_int (a0.2.1.take i.toNat) (a0.2.1.getD i.toNat 0)).bind fun r2_ =>
   cond r2_ (
    some (.inr false)) (
    rq (i64 (i + (1:Int))) <|
    some (.inl (i + (1:Int)))))) (
  cond ((a0.2.1.length:Int) == (0:Int)) (
   some (.inr false)) (
   cond (a0.1 != (1:Int)) (
    cond (decide ((0:Int) < (a0.2.2.1.length:Int))) (
     some (.inr false)) (
     cond (a0.2.2.2.1 != (0:Int)) (
      some (.inr false)) (
      cond (a0.1 != (3:Int)) (
       cond (decide ((0:Int) < (a0.2.2.2.2.length:Int))) (
        some (.inr false)) (
        impl_ruleValid_j1 a0 ())) (
       impl_ruleValid_j1 a0 ())))) (
    cond (a0.1 != (3:Int)) (
     cond (decide ((0:Int) < (a0.2.2.2.2.length:Int))) (
      some (.inr false)) (
      impl_ruleValid_j1 a0 ())) (
     impl_ruleValid_j1 a0 ()))))

noncomputable def impl_ruleValid (a0 : Int × (List Int) × (List Int) × Int × (List (List Int))) (a1 : Int) : Option Bool :=
 loop (impl_ruleValid_l1 a0 a1) (0:Int)

/-- impl.ModelValid$1 -/
noncomputable def impl_ModelValid_1 (r_ : Int × (List Int) × (List Int) × Int × (List (List Int))) (o0 : (List Int) × (List D4_)) : Option Bool :=
 (impl_ruleValid r_ (o0.1.length:Int)).bind fun r1_ =>
 some (!r1_)

/-- slices.IndexFunc[[]impl.Rule,impl.Rule] -/
noncomputable def slices_IndexFunc_impl_Rule__impl_ModelValid_1_l1 (s_ : List D4_) (o0 : (List Int) × (List D4_)) : Int → Option (Int ⊕ Int) := fun i =>
 cond (decide (i < (s_.length:Int))) (
  rq (0 ≤ i ∧ i < s_.length) <|
  (impl_ModelValid_1 (s_.getD i.toNat (0, ([], ([], (0, []))))) o0).bind fun r1_ =>
  cond r1_ (
   some (.inr i)) (
   rq (i64 (i + (1:Int))) <|
   some (.inl (i + (1:Int))))) (
  some (.inr (-1:Int)))

noncomputable def slices_IndexFunc_impl_Rule__impl_ModelValid_1 (s_ : List D4_) (o0 : (List Int) × (List D4_)) : Option Int :=
 loop (slices_IndexFunc_impl_Rule__impl_ModelValid_1_l1 s_ o0) (0:Int)

/-- slices.ContainsFunc[[]impl.Rule,impl.Rule] -/
noncomputable def slices_ContainsFunc_impl_Rule__impl_ModelValid_1 (s_ : List D4_) (o0 : (List Int) × (List D4_)) : Option Bool :=
 (slices_IndexFunc_impl_Rule__impl_ModelValid_1 s_ o0).bind fun r1_ =>
 some (decide ((0:Int) ≤ r1_))

/-- impl.ModelValid -/
noncomputable def impl_ModelValid_l1 (m : (List Int) × (List D4_)) : Int × Int → Option ((Int × Int) ⊕ Bool) := fun (count, i) =>
 cond (decide (i < (m.1.length:Int))) (
  rq (0 ≤ i ∧ i < m.1.length) <|
  (impl_within (m.1.getD i.toNat 0) (0:Int) (3:Int)).bind fun r2_ =>
  cond (!r2_) (
   some (.inr false)) (
   rq (i64 ((m.1.getD i.toNat 0) + (1:Int))) <|
   rq (i64 (count + ((m.1.getD i.toNat 0) + (1:Int)))) <|
   rq (i64 (i + (1:Int))) <|
   some (.inl ((count + ((m.1.getD i.toNat 0) + (1:Int))), (i + (1:Int)))))) (
  cond (decide (count ≤ (12:Int))) (
   (slices_ContainsFunc_impl_Rule__impl_ModelValid_1 m.2 m).bind fun r3_ =>
   some (.inr (!r3_))) (
   some (.inr false)))

noncomputable def impl_ModelValid (m : (List Int) × (List D4_)) : Option Bool :=
 (impl_within (m.1.length:Int) (1:Int) (5:Int)).bind fun r1_ =>
 cond (!r1_) (
  some false) (
  cond (decide ((8:Int) < (m.2.length:Int))) (
   some false) (
   loop (impl_ModelValid_l1 m) ((0:Int), (0:Int))))

/-- impl.isRule -/
noncomputable def impl_isRule (m : (List Int) × (List D4_)) (rule : Int) : Option Bool :=
 rq (i64 ((m.2.length:Int) - (1:Int))) <|
 (impl_within rule (0:Int) ((m.2.length:Int) - (1:Int))).bind fun r1_ =>
 some r1_

/-- slices.Clone[[]int,int] -/
noncomputable def slices_Clone_int (s_ : List Int) : Option (List Int) :=
 nt (s_ = []) (
  some ([] : List Int)) (
  rq (([] : List Int).length + s_.length ≤ bound) <|
  some (([] : List Int) ++ s_))

/-- slices.Clone[[][]int,[]int] -/
noncomputable def slices_Clone_s_int (s_ : List (List Int)) : Option (List (List Int)) :=
 nt (s_ = []) (
  some ([] : List (List Int))) (
  rq (([] : List (List Int)).length + s_.length ≤ bound) <|
  some (([] : List (List Int)) ++ s_))

/-- (impl.Rule).own -/
noncomputable def impl_Rule_own_l1 (r_ : Int × (List Int) × (List Int) × Int × (List (List Int))) (r_1 : List Int) (r_2 : List Int) (r_4 : List (List Int)) : Int × Int × (List (List Int)) → Option ((Int × Int × (List (List Int))) ⊕ (Int × Int × (List Int) × (List Int) × (List (List Int)))) := fun (i, k_, i1) =>
 cond (decide (i < (r_4.length:Int))) (
  rq (0 ≤ i ∧ i < i1.length) <|
  rq (k_ ≤ i) <|
  (slices_Clone_int (i1.getD i.toNat [])).bind fun r9_ =>
  rq (0 ≤ i ∧ i < i1.length) <|
  rq (i = k_) <|
  rq (i64 (i + (1:Int))) <|
  some (.inl ((i + (1:Int)), (k_ + 1), (i1.set i.toNat r9_)))) (
  rq (k_ = i1.length) <|
  some (.inr (r_.1, r_.2.2.2.1, r_1, r_2, i1)))

noncomputable def impl_Rule_own_j1 (r_ : Int × (List Int) × (List Int) × Int × (List (List Int))) : (List Int) × (List Int) × (List (List Int)) → Option (Int × Int × (List Int) × (List Int) × (List (List Int))) := fun (r_1, r_2, r_4) =>
 loop (impl_Rule_own_l1 r_ r_1 r_2 r_4) ((0:Int), (0:Int), r_4)

noncomputable def impl_Rule_own (r_ : Int × (List Int) × (List Int) × Int × (List (List Int))) : Option (Int × Int × (List Int) × (List Int) × (List (List Int))) :=
 (slices_Clone_int r_.2.1).bind fun r4_ =>
 (slices_Clone_int r_.2.2.1).bind fun r5_ =>
 (slices_Clone_s_int r_.2.2.2.2).bind fun r6_ =>
 impl_Rule_own_j1 r_ (r4_, r5_, r6_)

/-- (impl.Rule).canonical$1 -/
noncomputable def impl_Rule_canonical_1 (a : Int) (b : Int) (a2 : Int × (List Int) × (List Int) × Int × (List (List Int))) : Option Int :=
 rq (0 ≤ a ∧ a < a2.2.1.length) <|
 rq (0 ≤ b ∧ b < a2.2.1.length) <|
 rq (i64 ((a2.2.1.getD a.toNat 0) - (a2.2.1.getD b.toNat 0))) <|
 some ((a2.2.1.getD a.toNat 0) - (a2.2.1.getD b.toNat 0))

/-- (impl.Rule).canonical$2 -/
noncomputable def impl_Rule_canonical_2__Rs_l1 (list_ : List Int) (o1 : List Int) : Int × (List Int) → Option ((Int × (List Int)) ⊕ (List Int)) := fun (i, out) =>
 cond (decide (i < (o1.length:Int))) (
  rq (0 ≤ i ∧ i < o1.length) <|
  rq (0 ≤ (o1.getD i.toNat 0) ∧ (o1.getD i.toNat 0) < list_.length) <|
  rq (out.length + [(list_.getD (o1.getD i.toNat 0).toNat 0)].length ≤ bound) <|
  rq (i64 (i + (1:Int))) <|
  some (.inl ((i + (1:Int)), (out ++ [(list_.getD (o1.getD i.toNat 0).toNat 0)])))) (
  some (.inr out))

noncomputable def impl_Rule_canonical_2__Rs (list_ : List Int) (o1 : List Int) : Option (List Int) :=
 loop (impl_Rule_canonical_2__Rs_l1 list_ o1) ((0:Int), ([] : List Int))

/-- cmp.isNaN[int] -/
noncomputable def cmp_isNaN_int (x : Int) : Option Bool :=
 some (x != x)

/-- cmp.Compare[int] -/
noncomputable def cmp_Compare_int (x : Int) (y : Int) : Option Int :=
 (cmp_isNaN_int x).bind fun r1_ =>
 (cmp_isNaN_int y).bind fun r2_ =>
 cond r1_ (
  cond r2_ (
   some (0:Int)) (
   some (-1:Int))) (
  cond r2_ (
   some (1:Int)) (
   cond (decide (x < y)) (
    some (-1:Int)) (
    cond (decide (y < x)) (
     some (1:Int)) (
     some (0:Int)))))

/-- slices.Compare[[]int,int] -/
noncomputable def slices_Compare_int_l1 (s1_ : List Int) (s2_ : List Int) : Int → Option (Int ⊕ Int) := fun i =>
 cond (decide (i < (s1_.length:Int))) (
  rq (0 ≤ i ∧ i < s1_.length) <|
  cond (decide ((s2_.length:Int) ≤ i)) (
   some (.inr (1:Int))) (
   rq (0 ≤ i ∧ i < s2_.length) <|
   (cmp_Compare_int (s1_.getD i.toNat 0) (s2_.getD i.toNat 0)).bind fun r1_ =>
   cond (r1_ != (0:Int)) (
    some (.inr r1_)) (
    rq (i64 (i + (1:Int))) <|
    some (.inl (i + (1:Int)))))) (
  cond (decide ((s1_.length:Int) < (s2_.length:Int))) (
   some (.inr (-1:Int))) (
   some (.inr (0:Int))))

noncomputable def slices_Compare_int (s1_ : List Int) (s2_ : List Int) : Option Int :=
 loop (slices_Compare_int_l1 s1_ s2_) (0:Int)

/-- slices.Equal[[]int,int] -/
noncomputable def slices_Equal_int_l1 (s1_ : List Int) (s2_ : List Int) : Int → Option (Int ⊕ Bool) := fun i =>
 cond (decide (i < (s1_.length:Int))) (
  rq (0 ≤ i ∧ i < s1_.length) <|
  rq (0 ≤ i ∧ i < s2_.length) <|
  cond ((s1_.getD i.toNat 0) != (s2_.getD i.toNat 0)) (
   some (.inr false)) (
   rq (i64 (i + (1:Int))) <|
   some (.inl (i + (1:Int))))) (
  some (.inr true))

noncomputable def slices_Equal_int (s1_ : List Int) (s2_ : List Int) : Option Bool :=
 cond ((s1_.length:Int) != (s2_.length:Int)) (
  some false) (
  loop (slices_Equal_int_l1 s1_ s2_) (0:Int))

/-- slices.CompactFunc[[][]int,[]int] -/
noncomputable def slices_CompactFunc_s_int__slices_Equal_int__t_j1 : Int × (List (Value × (List Int))) → Option (Int ⊕ ((List (Value × (List Int))))) := fun (i4, i5) =>
 rq (0 ≤ i4 ∧ i4 ≤ i5.length) <|
 rq (0 ≤ i4 ∧ i4 ≤ (i5.take i4.toNat ++ List.replicate (i5.length - i4.toNat) (Value.slice none 0 0, [])).length) <|
 some (.inr ((i5.take i4.toNat ++ List.replicate (i5.length - i4.toNat) (Value.slice none 0 0, [])).take i4.toNat))

noncomputable def slices_CompactFunc_s_int__slices_Equal_int__t_l2 (i : Int) : Int × Int × (List (Value × (List Int))) → Option ((Int × Int × (List (Value × (List Int)))) ⊕ (Int ⊕ ((List (Value × (List Int)))))) := fun (i1, i2, i3) =>
 cond (decide (i2 < ((i3.length:Int) - i))) (
  rq (0 ≤ i2 ∧ i + i2 < i3.length) <|
  rq (i64 (i2 - (1:Int))) <|
  rq (0 ≤ (i2 - (1:Int)) ∧ i + (i2 - (1:Int)) < i3.length) <|
  (slices_Equal_int (i3.getD (i + i2).toNat (Value.slice none 0 0, [])).2 (i3.getD (i + (i2 - (1:Int))).toNat (Value.slice none 0 0, [])).2).bind fun r5_ =>
  cond (!r5_) (
   rq (0 ≤ i2 ∧ i + i2 < i3.length) <|
   rq (0 ≤ i1 ∧ i1 < i3.length) <|
   rq (i64 (i1 + (1:Int))) <|
   rq (i64 (i2 + (1:Int))) <|
   some (.inl ((i1 + (1:Int)), (i2 + (1:Int)), (i3.set i1.toNat (i3.getD (i + i2).toNat (Value.slice none 0 0, [])))))) (
   rq (i64 (i2 + (1:Int))) <|
   some (.inl (i1, (i2 + (1:Int)), i3)))) (
  up (slices_CompactFunc_s_int__slices_Equal_int__t_j1 (i1, i3)))

noncomputable def slices_CompactFunc_s_int__slices_Equal_int__t_l1 (o0 : List (Value × (List Int))) : Int → Option (Int ⊕ ((List (Value × (List Int))))) := fun i =>
 cond (decide (i < (o0.length:Int))) (
  rq (0 ≤ i ∧ i < o0.length) <|
  rq (i64 (i - (1:Int))) <|
  rq (0 ≤ (i - (1:Int)) ∧ (i - (1:Int)) < o0.length) <|
  (slices_Equal_int (o0.getD i.toNat (Value.slice none 0 0, [])).2 (o0.getD (i - (1:Int)).toNat (Value.slice none 0 0, [])).2).bind fun r2_ =>
  cond r2_ (
   rq (0 ≤ i ∧ i ≤ o0.length) <|
   loop (slices_CompactFunc_s_int__slices_Equal_int__t_l2 i) (i, (1:Int), o0)) (
   rq (i64 (i + (1:Int))) <|
   some (.inl (i + (1:Int))))) (
  some (.inr o0))

noncomputable def slices_CompactFunc_s_int__slices_Equal_int__t (o0 : List (Value × (List Int))) : Option ((List (Value × (List Int)))) :=
 cond (decide ((o0.length:Int) < (2:Int))) (
  some o0) (
  loop (slices_CompactFunc_s_int__slices_Equal_int__t_l1 o0) (1:Int))

/-- (impl.Rule).canonical -/
noncomputable def impl_Rule_canonical_j4 (a0 : Int × (List Int) × (List Int) × Int × (List (List Int))) (i_1 : List Int) (i_2 : List Int) : (List (List Int)) → Option (Int × Int × (List Int) × (List Int) × (List (List Int))) := fun i_41 =>
 (sortI slices_Compare_int i_41).bind fun r9_ =>
 (compG r9_).bind fun r10_ =>
 some (a0.1, a0.2.2.2.1, i_1, i_2, r10_)

noncomputable def impl_Rule_canonical_l1 (a0 : Int × (List Int) × (List Int) × Int × (List (List Int))) (r2_ : List Int) (i_1 : List Int) (i_2 : List Int) : Int × (List (List Int)) → Option ((Int × (List (List Int))) ⊕ (Int × Int × (List Int) × (List Int) × (List (List Int)))) := fun (i3, i_4) =>
 cond (decide (i3 < (a0.2.2.2.2.length:Int))) (
  rq (0 ≤ i3 ∧ i3 < a0.2.2.2.2.length) <|
  (impl_Rule_canonical_2__Rs (a0.2.2.2.2.getD i3.toNat []) r2_).bind fun r8_ =>
  rq (i_4.length + [r8_].length ≤ bound) <|
  rq (i64 (i3 + (1:Int))) <|
  some (.inl ((i3 + (1:Int)), (i_4 ++ [r8_])))) (
  up (impl_Rule_canonical_j4 a0 i_1 i_2 i_4))

noncomputable def impl_Rule_canonical_j3 (a0 : Int × (List Int) × (List Int) × Int × (List (List Int))) (r2_ : List Int) (i_1 : List Int) : (List Int) → Option (Int × Int × (List Int) × (List Int) × (List (List Int))) := fun i_2 =>
 loop (impl_Rule_canonical_l1 a0 r2_ i_1 i_2) ((0:Int), ([] : List (List Int)))

noncomputable def impl_Rule_canonical_j2 (a0 : Int × (List Int) × (List Int) × Int × (List (List Int))) (r2_ : List Int) : (List Int) → Option (Int × Int × (List Int) × (List Int) × (List (List Int))) := fun i_1 =>
 cond (a0.1 == (1:Int)) (
  (impl_Rule_canonical_2__Rs a0.2.2.1 r2_).bind fun r5_ =>
  impl_Rule_canonical_j3 a0 r2_ i_1 r5_) (
  impl_Rule_canonical_j3 a0 r2_ i_1 ([] : List Int))

noncomputable def impl_Rule_canonical_j1 (a0 : Int × (List Int) × (List Int) × Int × (List (List Int))) : (List Int) → Option (Int × Int × (List Int) × (List Int) × (List (List Int))) := fun i2 =>
 (sortI (fun x_ y_ => impl_Rule_canonical_1 x_ y_ a0) i2).bind fun r2_ =>
 (impl_Rule_canonical_2__Rs a0.2.1 r2_).bind fun r4_ =>
 impl_Rule_canonical_j2 a0 r2_ r4_

noncomputable def impl_Rule_canonical_l2 (a0 : Int × (List Int) × (List Int) × Int × (List (List Int))) : Int × (List Int) → Option ((Int × (List Int)) ⊕ (Int × Int × (List Int) × (List Int) × (List (List Int)))) := fun (i, i1) =>
 cond (decide (i < (a0.2.1.length:Int))) (
  rq (i1.length + [i].length ≤ bound) <|
  rq (i64 (i + (1:Int))) <|
  some (.inl ((i + (1:Int)), (i1 ++ [i])))) (
  up (impl_Rule_canonical_j1 a0 i1))

noncomputable def impl_Rule_canonical (a0 : Int × (List Int) × (List Int) × Int × (List (List Int))) : Option (Int × Int × (List Int) × (List Int) × (List (List Int))) :=
 cond (a0.1 == (4:Int)) (
  (impl_Rule_own a0).bind fun r1_ =>
  some (r1_.1, r1_.2.1, r1_.2.2.1, r1_.2.2.2.1, r1_.2.2.2.2)) (
  loop (impl_Rule_canonical_l2 a0) ((0:Int), ([] : List Int)))

/-- impl.CanonicalRule -/
noncomputable def impl_CanonicalRule (m : (List Int) × (List D4_)) (rule : Int) : Option (Bool × Int × Int × (List Int) × (List Int) × (List (List Int))) :=
 (impl_ModelValid m).bind fun r1_ =>
 cond (!r1_) (
  some (false, (0:Int), (0:Int), ([] : List Int), ([] : List Int), ([] : List (List Int)))) (
  (impl_isRule m rule).bind fun r2_ =>
  cond (!r2_) (
   some (false, (0:Int), (0:Int), ([] : List Int), ([] : List Int), ([] : List (List Int)))) (
   rq (0 ≤ rule ∧ rule < m.2.length) <|
   (impl_Rule_canonical (m.2.getD rule.toNat (0, ([], ([], (0, [])))))).bind fun r3_ =>
   some (true, r3_.1, r3_.2.1, r3_.2.2.1, r3_.2.2.2.1, r3_.2.2.2.2)))

/-- laws.eqIntS -/
noncomputable def laws_eqIntS_l1 (a : List Int) (b : List Int) : Int → Option (Int ⊕ Bool) := fun i =>
 cond (decide (i < (a.length:Int))) (
  rq (0 ≤ i ∧ i < a.length) <|
  rq (0 ≤ i ∧ i < b.length) <|
  cond ((a.getD i.toNat 0) != (b.getD i.toNat 0)) (
   some (.inr false)) (
   rq (i64 (i + (1:Int))) <|
   some (.inl (i + (1:Int))))) (
  some (.inr true))

noncomputable def laws_eqIntS (a : List Int) (b : List Int) : Option Bool :=
 cond ((a.length:Int) != (b.length:Int)) (
  some false) (
  loop (laws_eqIntS_l1 a b) (0:Int))

/-- laws.eqIntSS -/
noncomputable def laws_eqIntSS_l1 (a : List (List Int)) (b : List (List Int)) : Int → Option (Int ⊕ Bool) := fun i =>
 cond (decide (i < (a.length:Int))) (
  rq (0 ≤ i ∧ i < a.length) <|
  rq (0 ≤ i ∧ i < b.length) <|
  (laws_eqIntS (a.getD i.toNat []) (b.getD i.toNat [])).bind fun r2_ =>
  cond (!r2_) (
   some (.inr false)) (
   rq (i64 (i + (1:Int))) <|
   some (.inl (i + (1:Int))))) (
  some (.inr true))

noncomputable def laws_eqIntSS (a : List (List Int)) (b : List (List Int)) : Option Bool :=
 cond ((a.length:Int) != (b.length:Int)) (
  some false) (
  loop (laws_eqIntSS_l1 a b) (0:Int))

/-- laws.eqRule -/
noncomputable def laws_eqRule (a : Int × (List Int) × (List Int) × Int × (List (List Int))) (b : Int × (List Int) × (List Int) × Int × (List (List Int))) : Option Bool :=
 cond (a.1 != b.1) (
  some false) (
  (laws_eqIntS a.2.1 b.2.1).bind fun r1_ =>
  cond (!r1_) (
   some false) (
   (laws_eqIntS a.2.2.1 b.2.2.1).bind fun r2_ =>
   cond (!r2_) (
    some false) (
    cond (a.2.2.2.1 != b.2.2.2.1) (
     some false) (
     (laws_eqIntSS a.2.2.2.2 b.2.2.2.2).bind fun r3_ =>
     cond (!r3_) (
      some false) (
      some true)))))

/-- laws.eqRuleS -/
noncomputable def laws_eqRuleS_l1 (a : List D4_) (b : List D4_) : Int → Option (Int ⊕ Bool) := fun i =>
 cond (decide (i < (a.length:Int))) (
  rq (0 ≤ i ∧ i < a.length) <|
  rq (0 ≤ i ∧ i < b.length) <|
  (laws_eqRule (a.getD i.toNat (0, ([], ([], (0, []))))) (b.getD i.toNat (0, ([], ([], (0, [])))))).bind fun r2_ =>
  cond (!r2_) (
   some (.inr false)) (
   rq (i64 (i + (1:Int))) <|
   some (.inl (i + (1:Int))))) (
  some (.inr true))

noncomputable def laws_eqRuleS (a : List D4_) (b : List D4_) : Option Bool :=
 cond ((a.length:Int) != (b.length:Int)) (
  some false) (
  loop (laws_eqRuleS_l1 a b) (0:Int))

/-- laws.eqModel -/
noncomputable def laws_eqModel (a : (List Int) × (List D4_)) (b : (List Int) × (List D4_)) : Option Bool :=
 (laws_eqIntS a.1 b.1).bind fun r1_ =>
 cond (!r1_) (
  some false) (
  (laws_eqRuleS a.2 b.2).bind fun r2_ =>
  cond (!r2_) (
   some false) (
   some true))

/-- laws.markIntS -/
noncomputable def laws_markIntS_l1 : Int × Int × (List Int) → Option ((Int × Int × (List Int)) ⊕ (Int × (List Int))) := fun (k_1, i, a1) =>
 cond (decide (i < (a1.length:Int))) (
  rq (0 ≤ i ∧ i < a1.length) <|
  rq (i64 (k_1 + (1:Int))) <|
  rq (i64 (i + (1:Int))) <|
  some (.inl ((k_1 + (1:Int)), (i + (1:Int)), (a1.set i.toNat k_1)))) (
  some (.inr (k_1, a1)))

noncomputable def laws_markIntS (k_ : Int) (a : List Int) : Option (Int × (List Int)) :=
 loop (laws_markIntS_l1) (k_, (0:Int), a)

/-- laws.markIntS -/
noncomputable def laws_markIntS__d_l1 : Int × Int × (List Int) → Option ((Int × Int × (List Int)) ⊕ (Int × (List Int))) := fun (k_1, i, a1) =>
 cond (decide (i < (a1.length:Int))) (
  rq (0 ≤ i ∧ i < a1.length) <|
  rq (i64 (k_1 + (1:Int))) <|
  rq (i64 (i + (1:Int))) <|
  some (.inl ((k_1 + (1:Int)), (i + (1:Int)), (a1.set i.toNat k_1)))) (
  some (.inr (k_1, a1)))

noncomputable def laws_markIntS__d (k_ : Int) (a : List Int) : Option (Int × (List Int)) :=
 loop (laws_markIntS__d_l1) (k_, (0:Int), a)

/-- laws.markIntSS -/
noncomputable def laws_markIntSS_l1 : Int × Int × (List (List Int)) → Option ((Int × Int × (List (List Int))) ⊕ (Int × (List (List Int)))) := fun (k_1, i, a1) =>
 cond (decide (i < (a1.length:Int))) (
  rq (0 ≤ i ∧ i < a1.length) <|
  (laws_markIntS__d k_1 (a1.getD i.toNat [])).bind fun r2_ =>
  rq (i64 (i + (1:Int))) <|
  some (.inl (r2_.1, (i + (1:Int)), (a1.set i.toNat r2_.2)))) (
  some (.inr (k_1, a1)))

noncomputable def laws_markIntSS (k_ : Int) (a : List (List Int)) : Option (Int × (List (List Int))) :=
 loop (laws_markIntSS_l1) (k_, (0:Int), a)

/-- laws.markRuleS -/
noncomputable def laws_markRuleS_j2 (i : Int) (k_3 : Int) : (List D4_) → Option ((Int × Int × (List D4_)) ⊕ (Int × (List D4_))) := fun a5 =>
 rq (i64 (k_3 + (1:Int))) <|
 rq (0 ≤ i ∧ i < a5.length) <|
 (laws_markIntSS (k_3 + (1:Int)) (a5.getD i.toNat (0, ([], ([], (0, []))))).2.2.2.2).bind fun r6_ =>
 rq (i64 (i + (1:Int))) <|
 some (.inl (r6_.1, (i + (1:Int)), (a5.set i.toNat ((a5.getD i.toNat (0, ([], ([], (0, []))))).1, ((a5.getD i.toNat (0, ([], ([], (0, []))))).2.1, ((a5.getD i.toNat (0, ([], ([], (0, []))))).2.2.1, ((a5.getD i.toNat (0, ([], ([], (0, []))))).2.2.2.1, r6_.2)))))))

noncomputable def laws_markRuleS_j1 (i : Int) : Int × (List D4_) → Option ((Int × Int × (List D4_)) ⊕ (Int × (List D4_))) := fun (k_3, a4) =>
 rq (0 ≤ i ∧ i < a4.length) <|
 laws_markRuleS_j2 i k_3 (a4.set i.toNat ((a4.getD i.toNat (0, ([], ([], (0, []))))).1, ((a4.getD i.toNat (0, ([], ([], (0, []))))).2.1, ((a4.getD i.toNat (0, ([], ([], (0, []))))).2.2.1, (k_3, (a4.getD i.toNat (0, ([], ([], (0, []))))).2.2.2.2)))))

noncomputable def laws_markRuleS_l1 : Int × Int × (List D4_) → Option ((Int × Int × (List D4_)) ⊕ (Int × (List D4_))) := fun (k_1, i, a3) =>
 cond (decide (i < (a3.length:Int))) (
  rq (0 ≤ i ∧ i < a3.length) <|
  rq (i64 (k_1 + (1:Int))) <|
  rq (0 ≤ i ∧ i < (a3.set i.toNat (k_1, (a3.getD i.toNat (0, ([], ([], (0, []))))).2)).length) <|
  (laws_markIntS__d (k_1 + (1:Int)) ((a3.set i.toNat (k_1, (a3.getD i.toNat (0, ([], ([], (0, []))))).2)).getD i.toNat (0, ([], ([], (0, []))))).2.1).bind fun r4_ =>
  rq (0 ≤ i ∧ i < (a3.set i.toNat (k_1, (a3.getD i.toNat (0, ([], ([], (0, []))))).2)).length) <|
  (laws_markIntS__d r4_.1 (((a3.set i.toNat (k_1, (a3.getD i.toNat (0, ([], ([], (0, []))))).2)).set i.toNat (((a3.set i.toNat (k_1, (a3.getD i.toNat (0, ([], ([], (0, []))))).2)).getD i.toNat (0, ([], ([], (0, []))))).1, (r4_.2, ((a3.set i.toNat (k_1, (a3.getD i.toNat (0, ([], ([], (0, []))))).2)).getD i.toNat (0, ([], ([], (0, []))))).2.2))).getD i.toNat (0, ([], ([], (0, []))))).2.2.1).bind fun r5_ =>
  laws_markRuleS_j1 i (r5_.1, (((a3.set i.toNat (k_1, (a3.getD i.toNat (0, ([], ([], (0, []))))).2)).set i.toNat (((a3.set i.toNat (k_1, (a3.getD i.toNat (0, ([], ([], (0, []))))).2)).getD i.toNat (0, ([], ([], (0, []))))).1, (r4_.2, ((a3.set i.toNat (k_1, (a3.getD i.toNat (0, ([], ([], (0, []))))).2)).getD i.toNat (0, ([], ([], (0, []))))).2.2))).set i.toNat ((((a3.set i.toNat (k_1, (a3.getD i.toNat (0, ([], ([], (0, []))))).2)).set i.toNat (((a3.set i.toNat (k_1, (a3.getD i.toNat (0, ([], ([], (0, []))))).2)).getD i.toNat (0, ([], ([], (0, []))))).1, (r4_.2, ((a3.set i.toNat (k_1, (a3.getD i.toNat (0, ([], ([], (0, []))))).2)).getD i.toNat (0, ([], ([], (0, []))))).2.2))).getD i.toNat (0, ([], ([], (0, []))))).1, ((((a3.set i.toNat (k_1, (a3.getD i.toNat (0, ([], ([], (0, []))))).2)).set i.toNat (((a3.set i.toNat (k_1, (a3.getD i.toNat (0, ([], ([], (0, []))))).2)).getD i.toNat (0, ([], ([], (0, []))))).1, (r4_.2, ((a3.set i.toNat (k_1, (a3.getD i.toNat (0, ([], ([], (0, []))))).2)).getD i.toNat (0, ([], ([], (0, []))))).2.2))).getD i.toNat (0, ([], ([], (0, []))))).2.1, (r5_.2, (((a3.set i.toNat (k_1, (a3.getD i.toNat (0, ([], ([], (0, []))))).2)).set i.toNat (((a3.set i.toNat (k_1, (a3.getD i.toNat (0, ([], ([], (0, []))))).2)).getD i.toNat (0, ([], ([], (0, []))))).1, (r4_.2, ((a3.set i.toNat (k_1, (a3.getD i.toNat (0, ([], ([], (0, []))))).2)).getD i.toNat (0, ([], ([], (0, []))))).2.2))).getD i.toNat (0, ([], ([], (0, []))))).2.2.2)))))) (
  some (.inr (k_1, a3)))

noncomputable def laws_markRuleS (k_ : Int) (a : List D4_) : Option (Int × (List D4_)) :=
 loop (laws_markRuleS_l1) (k_, (0:Int), a)

/-- laws.markModel -/
noncomputable def laws_markModel (k_ : Int) (o0 : List Int) (o1 : List D4_) : Option (Int × (List Int) × (List D4_)) :=
 (laws_markIntS k_ o0).bind fun r1_ =>
 (laws_markRuleS r1_.1 o1).bind fun r2_ =>
 some (r2_.1, r1_.2, r2_.2)

/-- laws.markIntSS -/
noncomputable def laws_markIntSS_2_l1 : Int × Int × (List (List Int)) → Option ((Int × Int × (List (List Int))) ⊕ (Int × (List (List Int)))) := fun (k_1, i, a1) =>
 cond (decide (i < (a1.length:Int))) (
  rq (0 ≤ i ∧ i < a1.length) <|
  (laws_markIntS__d k_1 (a1.getD i.toNat [])).bind fun r2_ =>
  rq (i64 (i + (1:Int))) <|
  some (.inl (r2_.1, (i + (1:Int)), (a1.set i.toNat r2_.2)))) (
  some (.inr (k_1, a1)))

noncomputable def laws_markIntSS_2 (k_ : Int) (a : List (List Int)) : Option (Int × (List (List Int))) :=
 loop (laws_markIntSS_2_l1) (k_, (0:Int), a)

/-- laws.markRule -/
noncomputable def laws_markRule (a_0 : Int) (a_3 : Int) (k_ : Int) (o0 : List Int) (o1 : List Int) (o2 : List (List Int)) : Option (Int × (List Int) × (List Int) × (List (List Int))) :=
 (laws_markIntS k_ o0).bind fun r1_ =>
 (laws_markIntS r1_.1 o1).bind fun r2_ =>
 (laws_markIntSS_2 r2_.1 o2).bind fun r3_ =>
 some (r3_.1, r1_.2, r2_.2, r3_.2)

/-- laws.heldIntS -/
noncomputable def laws_heldIntS_l1 (a : List Int) : Int × Int → Option ((Int × Int) ⊕ Int) := fun (k_1, i) =>
 cond (decide (i < (a.length:Int))) (
  rq (0 ≤ i ∧ i < a.length) <|
  cond ((a.getD i.toNat 0) != k_1) (
   some (.inr (-1:Int))) (
   rq (i64 (k_1 + (1:Int))) <|
   rq (i64 (i + (1:Int))) <|
   some (.inl ((k_1 + (1:Int)), (i + (1:Int)))))) (
  some (.inr k_1))

noncomputable def laws_heldIntS (a : List Int) (k_ : Int) : Option Int :=
 loop (laws_heldIntS_l1 a) (k_, (0:Int))

/-- laws.heldIntSS -/
noncomputable def laws_heldIntSS_l1 (a : List (List Int)) : Int × Int → Option ((Int × Int) ⊕ Int) := fun (k_1, i) =>
 cond (decide (i < (a.length:Int))) (
  rq (0 ≤ i ∧ i < a.length) <|
  (laws_heldIntS (a.getD i.toNat []) k_1).bind fun r1_ =>
  cond (decide (r1_ < (0:Int))) (
   some (.inr (-1:Int))) (
   rq (i64 (i + (1:Int))) <|
   some (.inl (r1_, (i + (1:Int)))))) (
  some (.inr k_1))

noncomputable def laws_heldIntSS (a : List (List Int)) (k_ : Int) : Option Int :=
 loop (laws_heldIntSS_l1 a) (k_, (0:Int))

/-- laws.heldRule -/
noncomputable def laws_heldRule (a : Int × (List Int) × (List Int) × Int × (List (List Int))) (k_ : Int) : Option Int :=
 (laws_heldIntS a.2.1 k_).bind fun r1_ =>
 cond (decide (r1_ < (0:Int))) (
  some (-1:Int)) (
  (laws_heldIntS a.2.2.1 r1_).bind fun r2_ =>
  cond (decide (r2_ < (0:Int))) (
   some (-1:Int)) (
   (laws_heldIntSS a.2.2.2.2 r2_).bind fun r3_ =>
   cond (decide (r3_ < (0:Int))) (
    some (-1:Int)) (
    some r3_)))

/-- laws.FnExactCanonicalRule -/
noncomputable def laws_FnExactCanonicalRule_j1 (a0 : (List Int) × (List D4_)) (a1 : Int) (r3_ : Bool × Int × Int × (List (List Int)) × (List Int) × (List Int)) (r4_ : (List Int) × (List D4_)) (r5_ : Bool × Int × Int × (List Int) × (List Int) × (List (List Int))) : Unit → Option Bool := fun _ =>
 (laws_markModel (1:Int) r4_.1 r4_.2).bind fun r11_ =>
 cond (decide (r11_.1 < (0:Int))) (
  some false) (
  (laws_eqRule (r5_.2.1, (r5_.2.2.2.1, (r5_.2.2.2.2.1, (r5_.2.2.1, r5_.2.2.2.2.2)))) (r3_.2.1, (r3_.2.2.2.2.1, (r3_.2.2.2.2.2, (r3_.2.2.1, r3_.2.2.2.1))))).bind fun r12_ =>
  cond (!r12_) (
   some false) (
   cond (r5_.1 != r3_.1) (
    some false) (
    (laws_markRule r5_.2.1 r5_.2.2.1 (1:Int) r5_.2.2.2.1 r5_.2.2.2.2.1 r5_.2.2.2.2.2).bind fun r13_ =>
    (laws_heldRule (r5_.2.1, (r13_.2.1, (r13_.2.2.1, (r5_.2.2.1, r13_.2.2.2)))) (1:Int)).bind fun r14_ =>
    cond (decide (r14_ < (0:Int))) (
     some false) (
     cond (r14_ != r13_.1) (
      some false) (
      (laws_toModel a0).bind fun r15_ =>
      (impl_CanonicalRule r15_ a1).bind fun r16_ =>
      (laws_eqRule (r16_.2.1, (r16_.2.2.2.1, (r16_.2.2.2.2.1, (r16_.2.2.1, r16_.2.2.2.2.2)))) (r3_.2.1, (r3_.2.2.2.2.1, (r3_.2.2.2.2.2, (r3_.2.2.1, r3_.2.2.2.1))))).bind fun r17_ =>
      cond (!r17_) (
       some false) (
       cond (r16_.1 != r3_.1) (
        some false) (
        (laws_heldRule (r5_.2.1, (r13_.2.1, (r13_.2.2.1, (r5_.2.2.1, r13_.2.2.2)))) (1:Int)).bind fun r18_ =>
        cond (decide (r18_ < (0:Int))) (
         some false) (
         cond (r18_ != r13_.1) (
          some false) (
          some true)))))))))

noncomputable def laws_FnExactCanonicalRule (a0 : (List Int) × (List D4_)) (a1 : Int) : Option Bool :=
 (laws_szModel a0 (1048576:Int)).bind fun r1_ =>
 cond (decide (r1_ < (0:Int))) (
  some true) (
  (laws_toModel a0).bind fun r2_ =>
  (spec_CanonicalRule r2_ a1).bind fun r3_ =>
  (laws_toModel a0).bind fun r4_ =>
  (impl_CanonicalRule r4_ a1).bind fun r5_ =>
  (laws_eqRule (r5_.2.1, (r5_.2.2.2.1, (r5_.2.2.2.2.1, (r5_.2.2.1, r5_.2.2.2.2.2)))) (r3_.2.1, (r3_.2.2.2.2.1, (r3_.2.2.2.2.2, (r3_.2.2.1, r3_.2.2.2.1))))).bind fun r6_ =>
  cond (!r6_) (
   some false) (
   cond (r5_.1 != r3_.1) (
    some false) (
    (laws_toModel a0).bind fun r9_ =>
    (laws_eqModel r4_ r9_).bind fun r10_ =>
    cond (!r10_) (
     some false) (
     laws_FnExactCanonicalRule_j1 a0 a1 r3_ r4_ r5_ ()))))

end Go.AE.Y
