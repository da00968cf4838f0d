/-
  Models of the functions: what each computes, as a Lean function into Option. Definitions alone.
-/
import Derived.Test.YtpeelmjecjbfjaaAEx3
namespace Go.AE.Y
open Go Go.AE
set_option linter.unusedVariables false

/-- spec.l17Open -/
noncomputable def spec_l17Open_j1 : (List Int) → Option (((List Int) × Int)) := fun code1 =>
  some (code1, (0:Int))

noncomputable def spec_l17Open (code : List Int) : Option (((List Int) × Int)) :=
  cond (decide ((2000:Int) < (code.length:Int))) (
    rq (0 ≤ (2000:Int) ∧ (2000:Int) ≤ code.length) <|
    spec_l17Open_j1 (code.take (2000:Int).toNat)) (
    spec_l17Open_j1 code)

/-- (*spec.l17Rd).pick -/
noncomputable def spec_l17Rd_pick (a1 : Int) (o0 : (List Int) × Int) : Option (Int × ((List Int) × Int)) :=
  rq (i64 (o0.2 + (1:Int))) <|
  cond (decide (a1 < (1:Int))) (
    some ((0:Int), (o0.1, (o0.2 + (1:Int))))) (
    cond ((o0.1.length:Int) == (0:Int)) (
      some ((0:Int), (o0.1, (o0.2 + (1:Int))))) (
      rq (i64 ((o0.2 + (1:Int)) - (1:Int))) <|
      cond (decide (((o0.2 + (1:Int)) - (1:Int)) < (o0.1.length:Int))) (
        rq (0 ≤ ((o0.2 + (1:Int)) - (1:Int)) ∧ ((o0.2 + (1:Int)) - (1:Int)) < o0.1.length) <|
        rq (i64 (o0.1.getD ((o0.2 + (1:Int)) - (1:Int)).toNat 0)) <|
        rq (1 ≤ a1 ∧ 0 ≤ (o0.1.getD ((o0.2 + (1:Int)) - (1:Int)).toNat 0)) <|
        some (((o0.1.getD ((o0.2 + (1:Int)) - (1:Int)).toNat 0) % a1), (o0.1, (o0.2 + (1:Int))))) (
        rq (1 ≤ (o0.1.length:Int) ∧ 0 ≤ ((o0.2 + (1:Int)) - (1:Int))) <|
        rq (0 ≤ (((o0.2 + (1:Int)) - (1:Int)) % (o0.1.length:Int)) ∧ (((o0.2 + (1:Int)) - (1:Int)) % (o0.1.length:Int)) < o0.1.length) <|
        rq (i64 (o0.1.getD (((o0.2 + (1:Int)) - (1:Int)) % (o0.1.length:Int)).toNat 0)) <|
        rq (i64 ((o0.1.getD (((o0.2 + (1:Int)) - (1:Int)) % (o0.1.length:Int)).toNat 0) * (131:Int))) <|
        rq (i64 (((o0.2 + (1:Int)) - (1:Int)) * (7:Int))) <|
        rq (i64 ((((o0.2 + (1:Int)) - (1:Int)) * (7:Int)) + (3:Int))) <|
        rq (1 ≤ (o0.1.length:Int) ∧ 0 ≤ ((((o0.2 + (1:Int)) - (1:Int)) * (7:Int)) + (3:Int))) <|
        rq (0 ≤ (((((o0.2 + (1:Int)) - (1:Int)) * (7:Int)) + (3:Int)) % (o0.1.length:Int)) ∧ (((((o0.2 + (1:Int)) - (1:Int)) * (7:Int)) + (3:Int)) % (o0.1.length:Int)) < o0.1.length) <|
        rq (i64 (o0.1.getD (((((o0.2 + (1:Int)) - (1:Int)) * (7:Int)) + (3:Int)) % (o0.1.length:Int)).toNat 0)) <|
        rq (i64 ((o0.1.getD (((((o0.2 + (1:Int)) - (1:Int)) * (7:Int)) + (3:Int)) % (o0.1.length:Int)).toNat 0) * (1117:Int))) <|
        rq (i64 (((o0.1.getD (((o0.2 + (1:Int)) - (1:Int)) % (o0.1.length:Int)).toNat 0) * (131:Int)) + ((o0.1.getD (((((o0.2 + (1:Int)) - (1:Int)) * (7:Int)) + (3:Int)) % (o0.1.length:Int)).toNat 0) * (1117:Int)))) <|
        rq (i64 (((o0.2 + (1:Int)) - (1:Int)) * (29:Int))) <|
        rq (i64 ((((o0.1.getD (((o0.2 + (1:Int)) - (1:Int)) % (o0.1.length:Int)).toNat 0) * (131:Int)) + ((o0.1.getD (((((o0.2 + (1:Int)) - (1:Int)) * (7:Int)) + (3:Int)) % (o0.1.length:Int)).toNat 0) * (1117:Int))) + (((o0.2 + (1:Int)) - (1:Int)) * (29:Int)))) <|
        rq (1 ≤ (o0.1.length:Int) ∧ 0 ≤ ((o0.2 + (1:Int)) - (1:Int))) <|
        rq (i64 ((((o0.2 + (1:Int)) - (1:Int)) / (o0.1.length:Int)) * (53:Int))) <|
        rq (i64 (((((o0.1.getD (((o0.2 + (1:Int)) - (1:Int)) % (o0.1.length:Int)).toNat 0) * (131:Int)) + ((o0.1.getD (((((o0.2 + (1:Int)) - (1:Int)) * (7:Int)) + (3:Int)) % (o0.1.length:Int)).toNat 0) * (1117:Int))) + (((o0.2 + (1:Int)) - (1:Int)) * (29:Int))) + ((((o0.2 + (1:Int)) - (1:Int)) / (o0.1.length:Int)) * (53:Int)))) <|
        rq (1 ≤ (64:Int) ∧ 0 ≤ (((((o0.1.getD (((o0.2 + (1:Int)) - (1:Int)) % (o0.1.length:Int)).toNat 0) * (131:Int)) + ((o0.1.getD (((((o0.2 + (1:Int)) - (1:Int)) * (7:Int)) + (3:Int)) % (o0.1.length:Int)).toNat 0) * (1117:Int))) + (((o0.2 + (1:Int)) - (1:Int)) * (29:Int))) + ((((o0.2 + (1:Int)) - (1:Int)) / (o0.1.length:Int)) * (53:Int)))) <|
        rq (0 ≤ (((((o0.1.getD (((o0.2 + (1:Int)) - (1:Int)) % (o0.1.length:Int)).toNat 0) * (131:Int)) + ((o0.1.getD (((((o0.2 + (1:Int)) - (1:Int)) * (7:Int)) + (3:Int)) % (o0.1.length:Int)).toNat 0) * (1117:Int))) + (((o0.2 + (1:Int)) - (1:Int)) * (29:Int))) + ((((o0.2 + (1:Int)) - (1:Int)) / (o0.1.length:Int)) * (53:Int))) ∧ 0 ≤ ((((((o0.1.getD (((o0.2 + (1:Int)) - (1:Int)) % (o0.1.length:Int)).toNat 0) * (131:Int)) + ((o0.1.getD (((((o0.2 + (1:Int)) - (1:Int)) * (7:Int)) + (3:Int)) % (o0.1.length:Int)).toNat 0) * (1117:Int))) + (((o0.2 + (1:Int)) - (1:Int)) * (29:Int))) + ((((o0.2 + (1:Int)) - (1:Int)) / (o0.1.length:Int)) * (53:Int))) / (64:Int))) <|
        rq (1 ≤ a1 ∧ 0 ≤ (((((((o0.1.getD (((o0.2 + (1:Int)) - (1:Int)) % (o0.1.length:Int)).toNat 0) * (131:Int)) + ((o0.1.getD (((((o0.2 + (1:Int)) - (1:Int)) * (7:Int)) + (3:Int)) % (o0.1.length:Int)).toNat 0) * (1117:Int))) + (((o0.2 + (1:Int)) - (1:Int)) * (29:Int))) + ((((o0.2 + (1:Int)) - (1:Int)) / (o0.1.length:Int)) * (53:Int))).toNat ^^^ ((((((o0.1.getD (((o0.2 + (1:Int)) - (1:Int)) % (o0.1.length:Int)).toNat 0) * (131:Int)) + ((o0.1.getD (((((o0.2 + (1:Int)) - (1:Int)) * (7:Int)) + (3:Int)) % (o0.1.length:Int)).toNat 0) * (1117:Int))) + (((o0.2 + (1:Int)) - (1:Int)) * (29:Int))) + ((((o0.2 + (1:Int)) - (1:Int)) / (o0.1.length:Int)) * (53:Int))) / (64:Int)).toNat : Nat) : Int)) <|
        some (((((((((o0.1.getD (((o0.2 + (1:Int)) - (1:Int)) % (o0.1.length:Int)).toNat 0) * (131:Int)) + ((o0.1.getD (((((o0.2 + (1:Int)) - (1:Int)) * (7:Int)) + (3:Int)) % (o0.1.length:Int)).toNat 0) * (1117:Int))) + (((o0.2 + (1:Int)) - (1:Int)) * (29:Int))) + ((((o0.2 + (1:Int)) - (1:Int)) / (o0.1.length:Int)) * (53:Int))).toNat ^^^ ((((((o0.1.getD (((o0.2 + (1:Int)) - (1:Int)) % (o0.1.length:Int)).toNat 0) * (131:Int)) + ((o0.1.getD (((((o0.2 + (1:Int)) - (1:Int)) * (7:Int)) + (3:Int)) % (o0.1.length:Int)).toNat 0) * (1117:Int))) + (((o0.2 + (1:Int)) - (1:Int)) * (29:Int))) + ((((o0.2 + (1:Int)) - (1:Int)) / (o0.1.length:Int)) * (53:Int))) / (64:Int)).toNat : Nat) : Int) % a1), (o0.1, (o0.2 + (1:Int)))))))

/-- (*spec.l17Rd).num -/
noncomputable def spec_l17Rd_num (list_ : List Int) (r_ : (List Int) × Int) : Option (Int × ((List Int) × Int)) :=
  (spec_l17Rd_pick (list_.length:Int) r_).bind fun r1_ =>
  rq (0 ≤ r1_.1 ∧ r1_.1 < list_.length) <|
  some ((list_.getD r1_.1.toNat 0), r1_.2)

/-- spec.l6Some -/
noncomputable def spec_l6Some__rsd_j3 (i3 : (List Int) × Int) : (List Int) → Option (((List Int) × Int) × (List Int)) := fun i12 =>
  cond (decide ((1:Int) < (i12.length:Int))) (
    (spec_l17Rd_pick (3:Int) i3).bind fun r3_ =>
    cond (r3_.1 == (0:Int)) (
      rq (0 ≤ (0:Int) ∧ (0:Int) < i12.length) <|
      rq (0 ≤ (1:Int) ∧ (1:Int) < i12.length) <|
      rq (0 ≤ (0:Int) ∧ (0:Int) < i12.length) <|
      rq (0 ≤ (1:Int) ∧ (1:Int) < (i12.set (0:Int).toNat (i12.getD (1:Int).toNat 0)).length) <|
      some (r3_.2, ((i12.set (0:Int).toNat (i12.getD (1:Int).toNat 0)).set (1:Int).toNat (i12.getD (0:Int).toNat 0)))) (
      some (r3_.2, i12))) (
    some (i3, i12))

noncomputable def spec_l6Some__rsd_l1 (a2 : Int) (i3 : (List Int) × Int) : Int × (List Int) → Option ((Int × (List Int)) ⊕ (((List Int) × Int) × (List Int))) := fun (i10, i11) =>
  cond (decide (i10 < a2)) (
    rq (i11.length + [i10].length ≤ bound) <|
    rq (i64 (i10 + (1:Int))) <|
    some (.inl ((i10 + (1:Int)), (i11 ++ [i10])))) (
    up (spec_l6Some__rsd_j3 i3 i11))

noncomputable def spec_l6Some__rsd_l2 (a2 : Int) (i3 : (List Int) × Int) : Int × (List Int) → Option ((Int × (List Int)) ⊕ (((List Int) × Int) × (List Int))) := fun (i8, i9) =>
  cond (decide (i8 < a2)) (
    rq (i9.length + [i8].length ≤ bound) <|
    rq (i64 (i8 + (1:Int))) <|
    some (.inl ((i8 + (1:Int)), (i9 ++ [i8])))) (
    up (spec_l6Some__rsd_j3 i3 i9))

noncomputable def spec_l6Some__rsd_j2 (a2 : Int) (i3 : (List Int) × Int) : (List Int) → Option (((List Int) × Int) × (List Int)) := fun i7 =>
  cond (decide ((i7.length:Int) < a2)) (
    loop (spec_l6Some__rsd_l1 a2 i3) ((0:Int), ([] : List Int))) (
    cond ((i7.length:Int) == (0:Int)) (
      loop (spec_l6Some__rsd_l2 a2 i3) ((0:Int), ([] : List Int))) (
      spec_l6Some__rsd_j3 i3 i7))

noncomputable def spec_l6Some__rsd_l3 (a2 : Int) (o1 : List Int) (i3 : (List Int) × Int) : Int × (List Int) → Option ((Int × (List Int)) ⊕ (((List Int) × Int) × (List Int))) := fun (i5, i6) =>
  cond (decide ((i6.length:Int) < a2)) (
    cond (decide (i5 < (o1.length:Int))) (
      cond ((i6.length:Int) == (0:Int)) (
        rq (i6.length + [i5].length ≤ bound) <|
        rq (i64 (i5 + (1:Int))) <|
        some (.inl ((i5 + (1:Int)), (i6 ++ [i5])))) (
        rq (i64 ((i6.length:Int) - (1:Int))) <|
        rq (0 ≤ ((i6.length:Int) - (1:Int)) ∧ ((i6.length:Int) - (1:Int)) < i6.length) <|
        cond (decide ((i6.getD ((i6.length:Int) - (1:Int)).toNat 0) < i5)) (
          rq (i6.length + [i5].length ≤ bound) <|
          rq (i64 (i5 + (1:Int))) <|
          some (.inl ((i5 + (1:Int)), (i6 ++ [i5])))) (
          rq (i64 (i5 + (1:Int))) <|
          some (.inl ((i5 + (1:Int)), i6))))) (
      up (spec_l6Some__rsd_j2 a2 i3 i6))) (
    up (spec_l6Some__rsd_j2 a2 i3 i6))

noncomputable def spec_l6Some__rsd_j1 (a2 : Int) (o1 : List Int) : ((List Int) × Int) × (List Int) → Option (((List Int) × Int) × (List Int)) := fun (i3, i4) =>
  loop (spec_l6Some__rsd_l3 a2 o1 i3) ((0:Int), i4)

noncomputable def spec_l6Some__rsd_l4 (a2 : Int) (o1 : List Int) : Int × ((List Int) × Int) × (List Int) → Option ((Int × ((List Int) × Int) × (List Int)) ⊕ (((List Int) × Int) × (List Int))) := fun (i, i1, i2) =>
  cond (decide (i < (o1.length:Int))) (
    (spec_l17Rd_pick (3:Int) i1).bind fun r2_ =>
    cond (decide ((0:Int) < r2_.1)) (
      rq (i2.length + [i].length ≤ bound) <|
      rq (i64 (i + (1:Int))) <|
      some (.inl ((i + (1:Int)), r2_.2, (i2 ++ [i])))) (
      rq (i64 (i + (1:Int))) <|
      some (.inl ((i + (1:Int)), r2_.2, i2)))) (
    up (spec_l6Some__rsd_j1 a2 o1 (i1, i2)))

noncomputable def spec_l6Some__rsd (a2 : Int) (o0 : (List Int) × Int) (o1 : List Int) (o2 : List (Int × (List Int) × (List Int) × Int × (List (List Int)))) : Option (((List Int) × Int) × (List Int)) :=
  loop (spec_l6Some__rsd_l4 a2 o1) ((0:Int), o0, ([] : List Int))

/-- spec.l6Draw -/
noncomputable def spec_l6Draw__rsd_j1 (r1_ : Int × ((List Int) × Int)) (r2_ : ((List Int) × Int) × (List Int)) : ((List Int) × Int) × (List Int) → Option (((List Int) × Int) × Int × Int × (List Int) × (List Int) × (List (List Int))) := fun (i2, i_21) =>
  (spec_l17Rd_num [(1:Int), (2:Int), (0:Int), (-1:Int), (3:Int), (-3:Int), (4:Int)] i2).bind fun r6_ =>
  some (r6_.2, r1_.1, r6_.1, r2_.2, i_21, ([] : List (List Int)))

noncomputable def spec_l6Draw__rsd_l1 (r1_ : Int × ((List Int) × Int)) (r2_ : ((List Int) × Int) × (List Int)) : Int × ((List Int) × Int) × (List Int) → Option ((Int × ((List Int) × Int) × (List Int)) ⊕ (((List Int) × Int) × Int × Int × (List Int) × (List Int) × (List (List Int)))) := fun (i, i1, i_2) =>
  cond (decide (i < (r2_.2.length:Int))) (
    (spec_l17Rd_num [(1:Int), (-1:Int), (2:Int), (1:Int), (-2:Int), (3:Int)] i1).bind fun r5_ =>
    rq (i_2.length + [r5_.1].length ≤ bound) <|
    rq (i64 (i + (1:Int))) <|
    some (.inl ((i + (1:Int)), r5_.2, (i_2 ++ [r5_.1])))) (
    up (spec_l6Draw__rsd_j1 r1_ r2_ (i1, i_2)))

noncomputable def spec_l6Draw__rsd_j2 (i3 : Int) (i_4 : List (List Int)) : ((List Int) × Int) × (List Int) → Option ((Int × ((List Int) × Int) × (List (List Int))) ⊕ (((List Int) × Int) × Int × Int × (List Int) × (List Int) × (List (List Int)))) := fun (i13, i14) =>
  rq (i_4.length + [i14].length ≤ bound) <|
  rq (i64 (i3 - (1:Int))) <|
  some (.inl ((i3 - (1:Int)), i13, (i_4 ++ [i14])))

noncomputable def spec_l6Draw__rsd_l3 (r2_ : ((List Int) × Int) × (List Int)) (i3 : Int) (i_4 : List (List Int)) : Int × ((List Int) × Int) × (List Int) → Option ((Int × ((List Int) × Int) × (List Int)) ⊕ ((Int × ((List Int) × Int) × (List (List Int))) ⊕ (((List Int) × Int) × Int × Int × (List Int) × (List Int) × (List (List Int))))) := fun (i10, i11, i12) =>
  cond (decide (i10 < (r2_.2.length:Int))) (
    (spec_l17Rd_pick (4:Int) i11).bind fun r11_ =>
    rq (i12.length + [r11_.1].length ≤ bound) <|
    rq (i64 (i10 + (1:Int))) <|
    some (.inl ((i10 + (1:Int)), r11_.2, (i12 ++ [r11_.1])))) (
    up (spec_l6Draw__rsd_j2 i3 i_4 (i11, i12)))

noncomputable def spec_l6Draw__rsd_l2 (r1_ : Int × ((List Int) × Int)) (r2_ : ((List Int) × Int) × (List Int)) : Int × ((List Int) × Int) × (List (List Int)) → Option ((Int × ((List Int) × Int) × (List (List Int))) ⊕ (((List Int) × Int) × Int × Int × (List Int) × (List Int) × (List (List Int)))) := fun (i3, i9, i_4) =>
  cond (decide ((0:Int) < i3)) (
    loop (spec_l6Draw__rsd_l3 r2_ i3 i_4) ((0:Int), i9, ([] : List Int))) (
    some (.inr (i9, r1_.1, (0:Int), r2_.2, ([] : List Int), i_4)))

noncomputable def spec_l6Draw__rsd (o0 : (List Int) × Int) (o1 : List Int) (o2 : List (Int × (List Int) × (List Int) × Int × (List (List Int)))) : Option (((List Int) × Int) × Int × Int × (List Int) × (List Int) × (List (List Int))) :=
  (spec_l17Rd_num [(1:Int), (2:Int), (3:Int), (4:Int), (1:Int)] o0).bind fun r1_ =>
  (spec_l6Some__rsd (1:Int) r1_.2 o1 o2).bind fun r2_ =>
  cond (r1_.1 == (1:Int)) (
    loop (spec_l6Draw__rsd_l1 r1_ r2_) ((0:Int), r2_.1, ([] : List Int))) (
    cond (r1_.1 == (3:Int)) (
      (spec_l17Rd_num [(3:Int), (4:Int), (2:Int), (6:Int), (0:Int), (8:Int)] r2_.1).bind fun r7_ =>
      loop (spec_l6Draw__rsd_l2 r1_ r2_) (r7_.1, r7_.2, ([] : List (List Int)))) (
      cond (r1_.1 == (4:Int)) (
        (spec_l6Some__rsd (2:Int) r2_.1 o1 o2).bind fun r12_ =>
        rq (0 ≤ (2:Int) ∧ (2:Int) ≤ r12_.2.length) <|
        some (r12_.1, r1_.1, (0:Int), (r12_.2.take (2:Int).toNat), ([] : List Int), ([] : List (List Int)))) (
        some (r2_.1, r1_.1, (0:Int), r2_.2, ([] : List Int), ([] : List (List Int))))))

/-- spec.l6Model -/
noncomputable def spec_l6Model_l1 (i_03 : List Int) : Int × ((List Int) × Int) × (List (Int × (List Int) × (List Int) × Int × (List (List Int)))) → Option ((Int × ((List Int) × Int) × (List (Int × (List Int) × (List Int) × Int × (List (List Int))))) ⊕ (((List Int) × Int) × (List Int) × (List (Int × (List Int) × (List Int) × Int × (List (List Int)))))) := fun (i8, i9, i_1) =>
  cond (decide ((0:Int) < i8)) (
    (spec_l6Draw__rsd i9 i_03 i_1).bind fun r8_ =>
    rq (i_1.length + [(r8_.2.1, (r8_.2.2.2.1, (r8_.2.2.2.2.1, (r8_.2.2.1, r8_.2.2.2.2.2))))].length ≤ bound) <|
    rq (i64 (i8 - (1:Int))) <|
    some (.inl ((i8 - (1:Int)), r8_.1, (i_1 ++ [(r8_.2.1, (r8_.2.2.2.1, (r8_.2.2.2.2.1, (r8_.2.2.1, r8_.2.2.2.2.2))))])))) (
    some (.inr (i9, i_03, i_1)))

noncomputable def spec_l6Model_j2 (i2 : (List Int) × Int) : (List Int) → Option (((List Int) × Int) × (List Int) × (List (Int × (List Int) × (List Int) × Int × (List (List Int))))) := fun i_03 =>
  (spec_l17Rd_num [(2:Int), (3:Int), (1:Int), (4:Int), (0:Int)] i2).bind fun r5_ =>
  loop (spec_l6Model_l1 i_03) (r5_.1, r5_.2, ([] : List (Int × (List Int) × (List Int) × Int × (List (List Int)))))

noncomputable def spec_l6Model_l3 (i_02 : List Int) : Int × Int → Option ((Int × Int) ⊕ ((Int × (List Int)) ⊕ (((List Int) × Int) × (List Int) × (List (Int × (List Int) × (List Int) × Int × (List (List Int))))))) := fun (i6, i7) =>
  cond (decide (i7 < (i_02.length:Int))) (
    rq (0 ≤ i7 ∧ i7 < i_02.length) <|
    rq (i64 (i6 + (i_02.getD i7.toNat 0))) <|
    rq (i64 ((i6 + (i_02.getD i7.toNat 0)) + (1:Int))) <|
    rq (i64 (i7 + (1:Int))) <|
    some (.inl (((i6 + (i_02.getD i7.toNat 0)) + (1:Int)), (i7 + (1:Int))))) (
    cond (decide ((12:Int) < i6)) (
      rq (i64 ((i_02.length:Int) - (1:Int))) <|
      rq (0 ≤ ((i_02.length:Int) - (1:Int)) ∧ ((i_02.length:Int) - (1:Int)) ≤ i_02.length) <|
      some (.inr (.inl ((0:Int), (i_02.take ((i_02.length:Int) - (1:Int)).toNat))))) (
      some (.inr (.inl (i6, i_02)))))

noncomputable def spec_l6Model_l2 (i2 : (List Int) × Int) : Int × (List Int) → Option ((Int × (List Int)) ⊕ (((List Int) × Int) × (List Int) × (List (Int × (List Int) × (List Int) × Int × (List (List Int)))))) := fun (i3, i_02) =>
  cond (i3 == (0:Int)) (
    loop (spec_l6Model_l3 i_02) (i3, (0:Int))) (
    up (spec_l6Model_j2 i2 i_02))

noncomputable def spec_l6Model_j1 : ((List Int) × Int) × (List Int) → Option (((List Int) × Int) × (List Int) × (List (Int × (List Int) × (List Int) × Int × (List (List Int))))) := fun (i2, i_01) =>
  loop (spec_l6Model_l2 i2) ((0:Int), i_01)

noncomputable def spec_l6Model_l4 : Int × ((List Int) × Int) × (List Int) → Option ((Int × ((List Int) × Int) × (List Int)) ⊕ (((List Int) × Int) × (List Int) × (List (Int × (List Int) × (List Int) × Int × (List (List Int)))))) := fun (i, i1, i_0) =>
  cond (decide ((0:Int) < i)) (
    (spec_l17Rd_num [(2:Int), (1:Int), (3:Int), (2:Int), (0:Int)] i1).bind fun r4_ =>
    rq (i_0.length + [r4_.1].length ≤ bound) <|
    rq (i64 (i - (1:Int))) <|
    some (.inl ((i - (1:Int)), r4_.2, (i_0 ++ [r4_.1])))) (
    up (spec_l6Model_j1 (i1, i_0)))

noncomputable def spec_l6Model (o0 : (List Int) × Int) : Option (((List Int) × Int) × (List Int) × (List (Int × (List Int) × (List Int) × Int × (List (List Int))))) :=
  (spec_l17Rd_num [(3:Int), (2:Int), (4:Int), (3:Int)] o0).bind fun r1_ =>
  loop (spec_l6Model_l4) (r1_.1, r1_.2, ([] : List Int))

/-- spec.l6Copy -/
noncomputable def spec_l6Copy_j3 (m : (List Int) × (List (Int × (List Int) × (List Int) × Int × (List (List Int))))) (i : Int) (out_1 : List (Int × (List Int) × (List Int) × Int × (List (List Int)))) : (List (List Int)) → Option ((Int × (List (Int × (List Int) × (List Int) × Int × (List (List Int))))) ⊕ ((List Int) × (List (Int × (List Int) × (List Int) × Int × (List (List Int)))))) := fun y_43 =>
  rq (out_1.length + [((m.2.getD i.toNat (0, ([], ([], (0, []))))).1, ((([] : List Int) ++ (m.2.getD i.toNat (0, ([], ([], (0, []))))).2.1), ((([] : List Int) ++ (m.2.getD i.toNat (0, ([], ([], (0, []))))).2.2.1), ((m.2.getD i.toNat (0, ([], ([], (0, []))))).2.2.2.1, y_43))))].length ≤ bound) <|
  rq (i64 (i + (1:Int))) <|
  some (.inl ((i + (1:Int)), (out_1 ++ [((m.2.getD i.toNat (0, ([], ([], (0, []))))).1, ((([] : List Int) ++ (m.2.getD i.toNat (0, ([], ([], (0, []))))).2.1), ((([] : List Int) ++ (m.2.getD i.toNat (0, ([], ([], (0, []))))).2.2.1), ((m.2.getD i.toNat (0, ([], ([], (0, []))))).2.2.2.1, y_43))))])))

noncomputable def spec_l6Copy_l2 (m : (List Int) × (List (Int × (List Int) × (List Int) × Int × (List (List Int))))) (i : Int) (out_1 : List (Int × (List Int) × (List Int) × Int × (List (List Int)))) : Int × (List (List Int)) → Option ((Int × (List (List Int))) ⊕ ((Int × (List (Int × (List Int) × (List Int) × Int × (List (List Int))))) ⊕ ((List Int) × (List (Int × (List Int) × (List Int) × Int × (List (List Int))))))) := fun (k_1, y_42) =>
  cond (decide (k_1 < ((m.2.getD i.toNat (0, ([], ([], (0, []))))).2.2.2.2.length:Int))) (
    rq (0 ≤ k_1 ∧ k_1 < (m.2.getD i.toNat (0, ([], ([], (0, []))))).2.2.2.2.length) <|
    rq (([] : List Int).length + ((m.2.getD i.toNat (0, ([], ([], (0, []))))).2.2.2.2.getD k_1.toNat []).length ≤ bound) <|
    rq (y_42.length + [(([] : List Int) ++ ((m.2.getD i.toNat (0, ([], ([], (0, []))))).2.2.2.2.getD k_1.toNat []))].length ≤ bound) <|
    rq (i64 (k_1 + (1:Int))) <|
    some (.inl ((k_1 + (1:Int)), (y_42 ++ [(([] : List Int) ++ ((m.2.getD i.toNat (0, ([], ([], (0, []))))).2.2.2.2.getD k_1.toNat []))])))) (
    up (spec_l6Copy_j3 m i out_1 y_42))

noncomputable def spec_l6Copy_j2 (m : (List Int) × (List (Int × (List Int) × (List Int) × Int × (List (List Int))))) (i : Int) (out_1 : List (Int × (List Int) × (List Int) × Int × (List (List Int)))) : Unit → Option ((Int × (List (Int × (List Int) × (List Int) × Int × (List (List Int))))) ⊕ ((List Int) × (List (Int × (List Int) × (List Int) × Int × (List (List Int)))))) := fun _ =>
  loop (spec_l6Copy_l2 m i out_1) ((0:Int), ([] : List (List Int)))

noncomputable def spec_l6Copy_j1 (m : (List Int) × (List (Int × (List Int) × (List Int) × Int × (List (List Int))))) (i : Int) (out_1 : List (Int × (List Int) × (List Int) × Int × (List (List Int)))) : Unit → Option ((Int × (List (Int × (List Int) × (List Int) × Int × (List (List Int))))) ⊕ ((List Int) × (List (Int × (List Int) × (List Int) × Int × (List (List Int)))))) := fun _ =>
  rq (([] : List Int).length + (m.2.getD i.toNat (0, ([], ([], (0, []))))).2.1.length ≤ bound) <|
  rq (([] : List Int).length + (m.2.getD i.toNat (0, ([], ([], (0, []))))).2.2.1.length ≤ bound) <|
  spec_l6Copy_j2 m i out_1 ()

noncomputable def spec_l6Copy_l1 (m : (List Int) × (List (Int × (List Int) × (List Int) × Int × (List (List Int))))) : Int × (List (Int × (List Int) × (List Int) × Int × (List (List Int)))) → Option ((Int × (List (Int × (List Int) × (List Int) × Int × (List (List Int))))) ⊕ ((List Int) × (List (Int × (List Int) × (List Int) × Int × (List (List Int)))))) := fun (i, out_1) =>
  cond (decide (i < (m.2.length:Int))) (
    rq (0 ≤ i ∧ i < m.2.length) <|
    spec_l6Copy_j1 m i out_1 ()) (
    some (.inr ((([] : List Int) ++ m.1), out_1)))

noncomputable def spec_l6Copy (m : (List Int) × (List (Int × (List Int) × (List Int) × Int × (List (List Int))))) : Option ((List Int) × (List (Int × (List Int) × (List Int) × Int × (List (List Int))))) :=
  rq (([] : List Int).length + m.1.length ≤ bound) <|
  loop (spec_l6Copy_l1 m) ((0:Int), ([] : List (Int × (List Int) × (List Int) × Int × (List (List Int)))))

/-- spec.l6Mutate -/
noncomputable def spec_l6Mutate_l1 (r1_ : (List Int) × (List (Int × (List Int) × (List Int) × Int × (List (List Int))))) (r2_ : Int × ((List Int) × Int)) : (List Int) → Option ((List Int) ⊕ (((List Int) × Int) × (List Int) × (List (Int × (List Int) × (List Int) × Int × (List (List Int)))))) := fun i_0 =>
  cond (decide ((i_0.length:Int) ≤ (5:Int))) (
    rq (i_0.length + [(0:Int)].length ≤ bound) <|
    some (.inl (i_0 ++ [(0:Int)]))) (
    some (.inr (r2_.2, i_0, r1_.2)))

noncomputable def spec_l6Mutate (a1 : (List Int) × (List (Int × (List Int) × (List Int) × Int × (List (List Int))))) (o0 : (List Int) × Int) : Option (((List Int) × Int) × (List Int) × (List (Int × (List Int) × (List Int) × Int × (List (List Int))))) :=
  (spec_l6Copy a1).bind fun r1_ =>
  (spec_l17Rd_pick (50:Int) o0).bind fun r2_ =>
  cond (r2_.1 == (0:Int)) (
    cond (decide ((0:Int) < (r1_.1.length:Int))) (
      (spec_l17Rd_num [(-1:Int), (4:Int), (3:Int), (9223372036854775807:Int)] r2_.2).bind fun r4_ =>
      rq (0 ≤ (0:Int) ∧ (0:Int) < r1_.1.length) <|
      some (r4_.2, (r1_.1.set (0:Int).toNat r4_.1), r1_.2)) (
      some (r2_.2, r1_.1, r1_.2))) (
    cond (r2_.1 == (1:Int)) (
      loop (spec_l6Mutate_l1 r1_ r2_) r1_.1) (
      cond (r2_.1 == (2:Int)) (
        cond (decide ((0:Int) < (r1_.2.length:Int))) (
          (spec_l17Rd_num [(0:Int), (5:Int), (1:Int), (2:Int), (3:Int)] r2_.2).bind fun r6_ =>
          rq (0 ≤ (0:Int) ∧ (0:Int) < r1_.2.length) <|
          some (r6_.2, r1_.1, (r1_.2.set (0:Int).toNat (r6_.1, (r1_.2.getD (0:Int).toNat (0, ([], ([], (0, []))))).2)))) (
          some (r2_.2, r1_.1, r1_.2))) (
        cond (r2_.1 == (3:Int)) (
          cond (decide ((0:Int) < (r1_.2.length:Int))) (
            rq (i64 ((r1_.2.length:Int) - (1:Int))) <|
            rq (0 ≤ ((r1_.2.length:Int) - (1:Int)) ∧ ((r1_.2.length:Int) - (1:Int)) < r1_.2.length) <|
            cond (decide ((0:Int) < ((r1_.2.getD ((r1_.2.length:Int) - (1:Int)).toNat (0, ([], ([], (0, []))))).2.1.length:Int))) (
              rq (i64 ((r1_.2.length:Int) - (1:Int))) <|
              rq (0 ≤ ((r1_.2.length:Int) - (1:Int)) ∧ ((r1_.2.length:Int) - (1:Int)) < r1_.2.length) <|
              (spec_l17Rd_num [(-1:Int), (5:Int), (1:Int), (0:Int)] r2_.2).bind fun r8_ =>
              rq (0 ≤ (0:Int) ∧ (0:Int) < ((r1_.2.set ((r1_.2.length:Int) - (1:Int)).toNat (r1_.2.getD ((r1_.2.length:Int) - (1:Int)).toNat (0, ([], ([], (0, [])))))).getD ((r1_.2.length:Int) - (1:Int)).toNat (0, ([], ([], (0, []))))).2.1.length) <|
              some (r8_.2, r1_.1, ((r1_.2.set ((r1_.2.length:Int) - (1:Int)).toNat (r1_.2.getD ((r1_.2.length:Int) - (1:Int)).toNat (0, ([], ([], (0, [])))))).set ((r1_.2.length:Int) - (1:Int)).toNat (((r1_.2.set ((r1_.2.length:Int) - (1:Int)).toNat (r1_.2.getD ((r1_.2.length:Int) - (1:Int)).toNat (0, ([], ([], (0, [])))))).getD ((r1_.2.length:Int) - (1:Int)).toNat (0, ([], ([], (0, []))))).1, ((((r1_.2.set ((r1_.2.length:Int) - (1:Int)).toNat (r1_.2.getD ((r1_.2.length:Int) - (1:Int)).toNat (0, ([], ([], (0, [])))))).getD ((r1_.2.length:Int) - (1:Int)).toNat (0, ([], ([], (0, []))))).2.1.set (0:Int).toNat r8_.1), ((r1_.2.set ((r1_.2.length:Int) - (1:Int)).toNat (r1_.2.getD ((r1_.2.length:Int) - (1:Int)).toNat (0, ([], ([], (0, [])))))).getD ((r1_.2.length:Int) - (1:Int)).toNat (0, ([], ([], (0, []))))).2.2))))) (
              some (r2_.2, r1_.1, (r1_.2.set ((r1_.2.length:Int) - (1:Int)).toNat (r1_.2.getD ((r1_.2.length:Int) - (1:Int)).toNat (0, ([], ([], (0, []))))))))) (
            some (r2_.2, r1_.1, r1_.2))) (
          cond (r2_.1 == (4:Int)) (
            cond (decide ((0:Int) < (r1_.2.length:Int))) (
              (spec_l17Rd_num [(1001:Int), (-1001:Int), (1000:Int)] r2_.2).bind fun r10_ =>
              rq (0 ≤ (0:Int) ∧ (0:Int) < r1_.2.length) <|
              some (r10_.2, r1_.1, (r1_.2.set (0:Int).toNat ((r1_.2.getD (0:Int).toNat (0, ([], ([], (0, []))))).1, ((r1_.2.getD (0:Int).toNat (0, ([], ([], (0, []))))).2.1, ((r1_.2.getD (0:Int).toNat (0, ([], ([], (0, []))))).2.2.1, (r10_.1, (r1_.2.getD (0:Int).toNat (0, ([], ([], (0, []))))).2.2.2.2))))))) (
              some (r2_.2, r1_.1, r1_.2))) (
            cond (r2_.1 == (5:Int)) (
              some (r2_.2, ([] : List Int), ([] : List (Int × (List Int) × (List Int) × Int × (List (List Int)))))) (
              some (r2_.2, r1_.1, r1_.2)))))))

/-- spec.l9Draw -/
noncomputable def spec_l9Draw__rsd_j1 : ((List Int) × Int) × (List Int) → Option (((List Int) × Int) × (List Int)) := fun (r_2, out1) =>
  (spec_l17Rd_pick (30:Int) r_2).bind fun r3_ =>
  cond (r3_.1 == (0:Int)) (
    cond (decide ((0:Int) < (out1.length:Int))) (
      (spec_l17Rd_num [(10:Int), (-10:Int), (9:Int), (9223372036854775807:Int)] r3_.2).bind fun r4_ =>
      rq (0 ≤ (0:Int) ∧ (0:Int) < out1.length) <|
      some (r4_.2, (out1.set (0:Int).toNat r4_.1))) (
      some (r3_.2, out1))) (
    cond (r3_.1 == (1:Int)) (
      rq (out1.length + [(1:Int)].length ≤ bound) <|
      some (r3_.2, (out1 ++ [(1:Int)]))) (
      some (r3_.2, out1)))

noncomputable def spec_l9Draw__rsd_l1 (o1 : List Int) : Int × ((List Int) × Int) × (List Int) → Option ((Int × ((List Int) × Int) × (List Int)) ⊕ (((List Int) × Int) × (List Int))) := fun (i, r_1, out) =>
  cond (decide (i < (o1.length:Int))) (
    (spec_l17Rd_num [(1:Int), (-1:Int), (2:Int), (0:Int), (-2:Int), (3:Int)] r_1).bind fun r2_ =>
    rq (out.length + [r2_.1].length ≤ bound) <|
    rq (i64 (i + (1:Int))) <|
    some (.inl ((i + (1:Int)), r2_.2, (out ++ [r2_.1])))) (
    up (spec_l9Draw__rsd_j1 (r_1, out)))

noncomputable def spec_l9Draw__rsd (r_ : (List Int) × Int) (o1 : List Int) (o2 : List (Int × (List Int) × (List Int) × Int × (List (List Int)))) : Option (((List Int) × Int) × (List Int)) :=
  loop (spec_l9Draw__rsd_l1 o1) ((0:Int), r_, ([] : List Int))

/-- spec.l6DrawCells -/
noncomputable def spec_l6DrawCells__rsd_j1 : ((List Int) × Int) × (List Int) → Option (((List Int) × Int) × (List Int)) := fun (r_2, out1) =>
  (spec_l17Rd_pick (40:Int) r_2).bind fun r3_ =>
  cond (r3_.1 == (0:Int)) (
    rq (out1.length + [(0:Int)].length ≤ bound) <|
    some (r3_.2, (out1 ++ [(0:Int)]))) (
    cond (r3_.1 == (1:Int)) (
      cond (decide ((0:Int) < (out1.length:Int))) (
        (spec_l17Rd_num [(-1:Int), (4:Int), (9223372036854775807:Int)] r3_.2).bind fun r4_ =>
        rq (0 ≤ (0:Int) ∧ (0:Int) < out1.length) <|
        some (r4_.2, (out1.set (0:Int).toNat r4_.1))) (
        some (r3_.2, out1))) (
      some (r3_.2, out1)))

noncomputable def spec_l6DrawCells__rsd_j2 (i : Int) (r_1 : (List Int) × Int) (out : List Int) : Int → Option ((Int × ((List Int) × Int) × (List Int)) ⊕ (((List Int) × Int) × (List Int))) := fun n1 =>
  (spec_l17Rd_pick n1 r_1).bind fun r2_ =>
  rq (out.length + [r2_.1].length ≤ bound) <|
  rq (i64 (i + (1:Int))) <|
  some (.inl ((i + (1:Int)), r2_.2, (out ++ [r2_.1])))

noncomputable def spec_l6DrawCells__rsd_l1 (o1 : List Int) : Int × ((List Int) × Int) × (List Int) → Option ((Int × ((List Int) × Int) × (List Int)) ⊕ (((List Int) × Int) × (List Int))) := fun (i, r_1, out) =>
  cond (decide (i < (o1.length:Int))) (
    rq (0 ≤ i ∧ i < o1.length) <|
    cond (decide ((w64 ((o1.getD i.toNat 0) + (1:Int))) < (1:Int))) (
      spec_l6DrawCells__rsd_j2 i r_1 out (1:Int)) (
      cond (decide ((4:Int) < (w64 ((o1.getD i.toNat 0) + (1:Int))))) (
        spec_l6DrawCells__rsd_j2 i r_1 out (1:Int)) (
        spec_l6DrawCells__rsd_j2 i r_1 out (w64 ((o1.getD i.toNat 0) + (1:Int)))))) (
    up (spec_l6DrawCells__rsd_j1 (r_1, out)))

noncomputable def spec_l6DrawCells__rsd (r_ : (List Int) × Int) (o1 : List Int) (o2 : List (Int × (List Int) × (List Int) × Int × (List (List Int)))) : Option (((List Int) × Int) × (List Int)) :=
  loop (spec_l6DrawCells__rsd_l1 o1) ((0:Int), r_, ([] : List Int))

/-- spec.DrawObjectiveValue -/
noncomputable def spec_DrawObjectiveValue (code : List Int) : Option ((List Int) × (List Int) × (List Int) × (List (Int × (List Int) × (List Int) × Int × (List (List Int))))) :=
  (spec_l17Open code).bind fun r1_ =>
  (spec_l6Model r1_).bind fun r2_ =>
  (spec_l6Mutate r2_.2 r2_.1).bind fun r3_ =>
  (spec_l9Draw__rsd r3_.1 r3_.2.1 r3_.2.2).bind fun r4_ =>
  (spec_l6DrawCells__rsd r4_.1 r3_.2.1 r3_.2.2).bind fun r6_ =>
  some (r4_.2, r6_.2, r3_.2.1, r3_.2.2)

/-- spec.DrawAtMostConstraint -/
noncomputable def spec_DrawAtMostConstraint (code : List Int) : Option (Int × (List Int) × (List Int) × (List (Int × (List Int) × (List Int) × Int × (List (List Int))))) :=
  (spec_l17Open code).bind fun r1_ =>
  (spec_l6Model r1_).bind fun r2_ =>
  (spec_l6Mutate r2_.2 r2_.1).bind fun r3_ =>
  (spec_l9Draw__rsd r3_.1 r3_.2.1 r3_.2.2).bind fun r4_ =>
  (spec_l17Rd_num [(1:Int), (0:Int), (2:Int), (-1:Int), (3:Int), (-3:Int), (5:Int), (1000:Int), (1001:Int), (-1001:Int)] r4_.1).bind fun r6_ =>
  some (r6_.1, r4_.2, r3_.2.1, r3_.2.2)

/-- impl.within -/
noncomputable def impl_within (n : Int) (low : Int) (high : Int) : Option Bool :=
  cond (decide (low ≤ n)) (
    some (decide (n ≤ high))) (
    some false)

/-- slices.Index[[]int,int] -/
noncomputable def slices_Index_int_l1 (s_ : List Int) (v : Int) : Int → Option (Int ⊕ Int) := fun i =>
  cond (decide (i < (s_.length:Int))) (
    rq (0 ≤ i ∧ i < s_.length) <|
    cond (v == (s_.getD i.toNat 0)) (
      some (.inr i)) (
      rq (i64 (i + (1:Int))) <|
      some (.inl (i + (1:Int))))) (
    some (.inr (-1:Int)))

noncomputable def slices_Index_int (s_ : List Int) (v : Int) : Option Int :=
  loop (slices_Index_int_l1 s_ v) (0:Int)

/-- slices.Contains[[]int,int] -/
noncomputable def slices_Contains_int (s_ : List Int) (v : Int) : Option Bool :=
  (slices_Index_int s_ v).bind fun r1_ =>
  some (decide ((0:Int) ≤ r1_))

/-- impl.ruleValid$1 -/
noncomputable def impl_ruleValid_1 (n : Int) : Option Bool :=
  cond (n == (0:Int)) (
    some true) (
    (impl_within n (-9:Int) (9:Int)).bind fun r1_ =>
    some (!r1_))

/-- slices.IndexFunc[[]int,int] -/
noncomputable def slices_IndexFunc_int__impl_ruleValid_1_l1 (s_ : List Int) : Int → Option (Int ⊕ Int) := fun i =>
  cond (decide (i < (s_.length:Int))) (
    rq (0 ≤ i ∧ i < s_.length) <|
    (impl_ruleValid_1 (s_.getD i.toNat 0)).bind fun r1_ =>
    cond r1_ (
      some (.inr i)) (
      rq (i64 (i + (1:Int))) <|
      some (.inl (i + (1:Int))))) (
    some (.inr (-1:Int)))

noncomputable def slices_IndexFunc_int__impl_ruleValid_1 (s_ : List Int) : Option Int :=
  loop (slices_IndexFunc_int__impl_ruleValid_1_l1 s_) (0:Int)

/-- slices.ContainsFunc[[]int,int] -/
noncomputable def slices_ContainsFunc_int__impl_ruleValid_1 (s_ : List Int) : Option Bool :=
  (slices_IndexFunc_int__impl_ruleValid_1 s_).bind fun r1_ =>
  some (decide ((0:Int) ≤ r1_))

/-- impl.ruleValid$2$1 -/
noncomputable def impl_ruleValid_2_1 (n : Int) : Option Bool :=
  (impl_within n (0:Int) (3:Int)).bind fun r1_ =>
  some (!r1_)

/-- slices.IndexFunc[[]int,int] -/
noncomputable def slices_IndexFunc_int__impl_ruleValid_2_1_l1 (s_ : List Int) : Int → Option (Int ⊕ Int) := fun i =>
  cond (decide (i < (s_.length:Int))) (
    rq (0 ≤ i ∧ i < s_.length) <|
    (impl_ruleValid_2_1 (s_.getD i.toNat 0)).bind fun r1_ =>
    cond r1_ (
      some (.inr i)) (
      rq (i64 (i + (1:Int))) <|
      some (.inl (i + (1:Int))))) (
    some (.inr (-1:Int)))

noncomputable def slices_IndexFunc_int__impl_ruleValid_2_1 (s_ : List Int) : Option Int :=
  loop (slices_IndexFunc_int__impl_ruleValid_2_1_l1 s_) (0:Int)

/-- slices.ContainsFunc[[]int,int] -/
noncomputable def slices_ContainsFunc_int__impl_ruleValid_2_1 (s_ : List Int) : Option Bool :=
  (slices_IndexFunc_int__impl_ruleValid_2_1 s_).bind fun r1_ =>
  some (decide ((0:Int) ≤ r1_))

/-- impl.ruleValid$2 -/
noncomputable def impl_ruleValid_2 (row : List Int) (o0 : Int × (List Int) × (List Int) × Int × (List (List Int))) : Option Bool :=
  cond ((row.length:Int) != (o0.2.1.length:Int)) (
    some true) (
    (slices_ContainsFunc_int__impl_ruleValid_2_1 row).bind fun r1_ =>
    some r1_)

/-- slices.IndexFunc[[][]int,[]int] -/
noncomputable def slices_IndexFunc_s_int__impl_ruleValid_2_l1 (s_ : List (List Int)) (o0 : Int × (List Int) × (List Int) × Int × (List (List Int))) : Int → Option (Int ⊕ Int) := fun i =>
  cond (decide (i < (s_.length:Int))) (
    rq (0 ≤ i ∧ i < s_.length) <|
    (impl_ruleValid_2 (s_.getD i.toNat []) o0).bind fun r1_ =>
    cond r1_ (
      some (.inr i)) (
      rq (i64 (i + (1:Int))) <|
      some (.inl (i + (1:Int))))) (
    some (.inr (-1:Int)))

noncomputable def slices_IndexFunc_s_int__impl_ruleValid_2 (s_ : List (List Int)) (o0 : Int × (List Int) × (List Int) × Int × (List (List Int))) : Option Int :=
  loop (slices_IndexFunc_s_int__impl_ruleValid_2_l1 s_ o0) (0:Int)

/-- slices.ContainsFunc[[][]int,[]int] -/
noncomputable def slices_ContainsFunc_s_int__impl_ruleValid_2 (s_ : List (List Int)) (o0 : Int × (List Int) × (List Int) × Int × (List (List Int))) : Option Bool :=
  (slices_IndexFunc_s_int__impl_ruleValid_2 s_ o0).bind fun r1_ =>
  some (decide ((0:Int) ≤ r1_))

/-- impl.ruleValid -/
noncomputable def impl_ruleValid_j1 (a0 : Int × (List Int) × (List Int) × Int × (List (List Int))) : Unit → Option (Int ⊕ Bool) := fun _ =>
  cond (a0.1 == (1:Int)) (
    cond ((a0.2.2.1.length:Int) == (a0.2.1.length:Int)) (
      (impl_within a0.2.2.2.1 (-1000:Int) (1000:Int)).bind fun r3_ =>
      cond r3_ (
        (slices_ContainsFunc_int__impl_ruleValid_1 a0.2.2.1).bind fun r4_ =>
        some (.inr (!r4_))) (
        some (.inr false))) (
      some (.inr false))) (
    cond (a0.1 == (3:Int)) (
      cond (decide ((a0.2.2.2.2.length:Int) ≤ (8:Int))) (
        (slices_ContainsFunc_s_int__impl_ruleValid_2 a0.2.2.2.2 a0).bind fun r5_ =>
        some (.inr (!r5_))) (
        some (.inr false))) (
      cond (a0.1 == (4:Int)) (
        some (.inr ((a0.2.1.length:Int) == (2:Int)))) (
        some (.inr (a0.1 == (2:Int))))))

noncomputable def impl_ruleValid_l1 (a0 : Int × (List Int) × (List Int) × Int × (List (List Int))) (a1 : Int) : Int → Option (Int ⊕ Bool) := fun i =>
  cond (decide (i < (a0.2.1.length:Int))) (
    rq (0 ≤ i ∧ i < a0.2.1.length) <|
    rq (i64 (a1 - (1:Int))) <|
    (impl_within (a0.2.1.getD i.toNat 0) (0:Int) (a1 - (1:Int))).bind fun r1_ =>
    cond (!r1_) (
      some (.inr false)) (
      rq (0 ≤ i ∧ i ≤ a0.2.1.length) <|
      (slices_Contains_int (a0.2.1.take i.toNat) (a0.2.1.getD i.toNat 0)).bind fun r2_ =>
      cond r2_ (
        some (.inr false)) (
        rq (i64 (i + (1:Int))) <|
        some (.inl (i + (1:Int)))))) (
    cond ((a0.2.1.length:Int) == (0:Int)) (
      some (.inr false)) (
      cond (a0.1 != (1:Int)) (
        cond (decide ((0:Int) < (a0.2.2.1.length:Int))) (
          some (.inr false)) (
          cond (a0.2.2.2.1 != (0:Int)) (
            some (.inr false)) (
            cond (a0.1 != (3:Int)) (
              cond (decide ((0:Int) < (a0.2.2.2.2.length:Int))) (
                some (.inr false)) (
                impl_ruleValid_j1 a0 ())) (
              impl_ruleValid_j1 a0 ())))) (
        cond (a0.1 != (3:Int)) (
          cond (decide ((0:Int) < (a0.2.2.2.2.length:Int))) (
            some (.inr false)) (
            impl_ruleValid_j1 a0 ())) (
          impl_ruleValid_j1 a0 ()))))

noncomputable def impl_ruleValid (a0 : Int × (List Int) × (List Int) × Int × (List (List Int))) (a1 : Int) : Option Bool :=
  loop (impl_ruleValid_l1 a0 a1) (0:Int)

/-- impl.ModelValid$1 -/
noncomputable def impl_ModelValid_1 (r_ : Int × (List Int) × (List Int) × Int × (List (List Int))) (o0 : (List Int) × (List (Int × (List Int) × (List Int) × Int × (List (List Int))))) : Option Bool :=
  (impl_ruleValid r_ (o0.1.length:Int)).bind fun r1_ =>
  some (!r1_)

/-- slices.IndexFunc[[]impl.Rule,impl.Rule] -/
noncomputable def slices_IndexFunc_impl_Rule__impl_ModelValid_1_l1 (s_ : List (Int × (List Int) × (List Int) × Int × (List (List Int)))) (o0 : (List Int) × (List (Int × (List Int) × (List Int) × Int × (List (List Int))))) : Int → Option (Int ⊕ Int) := fun i =>
  cond (decide (i < (s_.length:Int))) (
    rq (0 ≤ i ∧ i < s_.length) <|
    (impl_ModelValid_1 (s_.getD i.toNat (0, ([], ([], (0, []))))) o0).bind fun r1_ =>
    cond r1_ (
      some (.inr i)) (
      rq (i64 (i + (1:Int))) <|
      some (.inl (i + (1:Int))))) (
    some (.inr (-1:Int)))

noncomputable def slices_IndexFunc_impl_Rule__impl_ModelValid_1 (s_ : List (Int × (List Int) × (List Int) × Int × (List (List Int)))) (o0 : (List Int) × (List (Int × (List Int) × (List Int) × Int × (List (List Int))))) : Option Int :=
  loop (slices_IndexFunc_impl_Rule__impl_ModelValid_1_l1 s_ o0) (0:Int)

/-- slices.ContainsFunc[[]impl.Rule,impl.Rule] -/
noncomputable def slices_ContainsFunc_impl_Rule__impl_ModelValid_1 (s_ : List (Int × (List Int) × (List Int) × Int × (List (List Int)))) (o0 : (List Int) × (List (Int × (List Int) × (List Int) × Int × (List (List Int))))) : Option Bool :=
  (slices_IndexFunc_impl_Rule__impl_ModelValid_1 s_ o0).bind fun r1_ =>
  some (decide ((0:Int) ≤ r1_))

/-- impl.ModelValid -/
noncomputable def impl_ModelValid_l1 (m : (List Int) × (List (Int × (List Int) × (List Int) × Int × (List (List Int))))) : Int × Int → Option ((Int × Int) ⊕ Bool) := fun (count, i) =>
  cond (decide (i < (m.1.length:Int))) (
    rq (0 ≤ i ∧ i < m.1.length) <|
    (impl_within (m.1.getD i.toNat 0) (0:Int) (3:Int)).bind fun r2_ =>
    cond (!r2_) (
      some (.inr false)) (
      rq (i64 ((m.1.getD i.toNat 0) + (1:Int))) <|
      rq (i64 (count + ((m.1.getD i.toNat 0) + (1:Int)))) <|
      rq (i64 (i + (1:Int))) <|
      some (.inl ((count + ((m.1.getD i.toNat 0) + (1:Int))), (i + (1:Int)))))) (
    cond (decide (count ≤ (12:Int))) (
      (slices_ContainsFunc_impl_Rule__impl_ModelValid_1 m.2 m).bind fun r3_ =>
      some (.inr (!r3_))) (
      some (.inr false)))

noncomputable def impl_ModelValid (m : (List Int) × (List (Int × (List Int) × (List Int) × Int × (List (List Int))))) : Option Bool :=
  (impl_within (m.1.length:Int) (1:Int) (5:Int)).bind fun r1_ =>
  cond (!r1_) (
    some false) (
    cond (decide ((8:Int) < (m.2.length:Int))) (
      some false) (
      loop (impl_ModelValid_l1 m) ((0:Int), (0:Int))))

/-- impl.isObjective$1 -/
noncomputable def impl_isObjective_1 (n : Int) : Option Bool :=
  (impl_within n (-9:Int) (9:Int)).bind fun r1_ =>
  some (!r1_)

/-- slices.IndexFunc[[]int,int] -/
noncomputable def slices_IndexFunc_int__impl_isObjective_1_l1 (s_ : List Int) : Int → Option (Int ⊕ Int) := fun i =>
  cond (decide (i < (s_.length:Int))) (
    rq (0 ≤ i ∧ i < s_.length) <|
    (impl_isObjective_1 (s_.getD i.toNat 0)).bind fun r1_ =>
    cond r1_ (
      some (.inr i)) (
      rq (i64 (i + (1:Int))) <|
      some (.inl (i + (1:Int))))) (
    some (.inr (-1:Int)))

noncomputable def slices_IndexFunc_int__impl_isObjective_1 (s_ : List Int) : Option Int :=
  loop (slices_IndexFunc_int__impl_isObjective_1_l1 s_) (0:Int)

/-- slices.ContainsFunc[[]int,int] -/
noncomputable def slices_ContainsFunc_int__impl_isObjective_1 (s_ : List Int) : Option Bool :=
  (slices_IndexFunc_int__impl_isObjective_1 s_).bind fun r1_ =>
  some (decide ((0:Int) ≤ r1_))

/-- impl.isObjective -/
noncomputable def impl_isObjective (m : (List Int) × (List (Int × (List Int) × (List Int) × Int × (List (List Int))))) (coefs : List Int) : Option Bool :=
  cond ((coefs.length:Int) == (m.1.length:Int)) (
    (slices_ContainsFunc_int__impl_isObjective_1 coefs).bind fun r1_ =>
    some (!r1_)) (
    some false)

/-- (impl.Model).boolVar -/
noncomputable def impl_Model_boolVar_l1 (m : (List Int) × (List (Int × (List Int) × (List Int) × Int × (List (List Int))))) (cell : Int) : Int × Int → Option ((Int × Int) ⊕ Int) := fun (v, i) =>
  cond (decide (i < ((m.1.take cell.toNat).length:Int))) (
    rq (0 ≤ i ∧ i < (m.1.take cell.toNat).length) <|
    rq (i64 (((m.1.take cell.toNat).getD i.toNat 0) + (1:Int))) <|
    rq (i64 (v + (((m.1.take cell.toNat).getD i.toNat 0) + (1:Int)))) <|
    rq (i64 (i + (1:Int))) <|
    some (.inl ((v + (((m.1.take cell.toNat).getD i.toNat 0) + (1:Int))), (i + (1:Int))))) (
    some (.inr v))

noncomputable def impl_Model_boolVar (m : (List Int) × (List (Int × (List Int) × (List Int) × Int × (List (List Int))))) (cell : Int) (value : Int) : Option Int :=
  rq (i64 ((1:Int) + value)) <|
  rq (0 ≤ cell ∧ cell ≤ m.1.length) <|
  loop (impl_Model_boolVar_l1 m cell) (((1:Int) + value), (0:Int))

/-- impl.isLiteral -/
noncomputable def impl_isLiteral (l : Int) : Option Bool :=
  cond (l != (0:Int)) (
    (impl_within l (-12:Int) (12:Int)).bind fun r1_ =>
    some r1_) (
    some false)

/-- impl.variableOf -/
noncomputable def impl_variableOf (l : Int) : Option Int :=
  rq (i64 (0 - l)) <|
  some (max l (0 - l))

/-- impl.ConstraintValid -/
noncomputable def impl_ConstraintValid_l1 (c_ : (List (Int × Int)) × Int) : Int × Int → Option ((Int × Int) ⊕ Bool) := fun (before, i) =>
  cond (decide (i < (c_.1.length:Int))) (
    rq (0 ≤ i ∧ i < c_.1.length) <|
    (impl_isLiteral (c_.1.getD i.toNat (0, 0)).2).bind fun r1_ =>
    cond (!r1_) (
      some (.inr false)) (
      (impl_variableOf (c_.1.getD i.toNat (0, 0)).2).bind fun r2_ =>
      cond (decide (r2_ ≤ before)) (
        some (.inr false)) (
        (impl_within (c_.1.getD i.toNat (0, 0)).1 (1:Int) (1000:Int)).bind fun r3_ =>
        cond (!r3_) (
          some (.inr false)) (
          (impl_variableOf (c_.1.getD i.toNat (0, 0)).2).bind fun r4_ =>
          rq (i64 (i + (1:Int))) <|
          some (.inl (r4_, (i + (1:Int)))))))) (
    (impl_within c_.2 (0:Int) (20000:Int)).bind fun r5_ =>
    some (.inr r5_))

noncomputable def impl_ConstraintValid (c_ : (List (Int × Int)) × Int) : Option Bool :=
  loop (impl_ConstraintValid_l1 c_) ((0:Int), (0:Int))

/-- (impl.Constraint).valid -/
noncomputable def impl_Constraint_valid__s (c_1 : Int) (o0 : List (Int × Int)) : Option (Bool × Int × (List (Int × Int))) :=
  (impl_ConstraintValid (o0, c_1)).bind fun r1_ =>
  cond (!r1_) (
    some (false, (0:Int), ([] : List (Int × Int)))) (
    some (true, c_1, o0))

/-- impl.normal -/
noncomputable def impl_normal_j2 : Int × (List (Int × Int)) → Option (Bool × Int × (List (Int × Int))) := fun (i9, i_03) =>
  (impl_Constraint_valid__s (max (0:Int) i9) i_03).bind fun r1_ =>
  some (r1_.1, r1_.2.1, r1_.2.2)

noncomputable def impl_normal_j3 (i5 : Int) (i6 : Int) : Int × (List (Int × Int)) → Option ((Int × Int × (List (Int × Int))) ⊕ (Bool × Int × (List (Int × Int)))) := fun (i8, i_02) =>
  rq (i64 (i5 - i8)) <|
  rq (i64 (i6 + (1:Int))) <|
  some (.inl ((i5 - i8), (i6 + (1:Int)), i_02))

noncomputable def impl_normal_l1 (i4 : List Int) : Int × Int × (List (Int × Int)) → Option ((Int × Int × (List (Int × Int))) ⊕ (Bool × Int × (List (Int × Int)))) := fun (i5, i6, i_01) =>
  cond (decide (i6 < (13:Int))) (
    rq ((0 ≤ i6 ∧ i6 < 13) ∧ 13 ≤ [(i4.getD 0 0), (i4.getD 1 0), (i4.getD 2 0), (i4.getD 3 0), (i4.getD 4 0), (i4.getD 5 0), (i4.getD 6 0), (i4.getD 7 0), (i4.getD 8 0), (i4.getD 9 0), (i4.getD 10 0), (i4.getD 11 0), (i4.getD 12 0)].length) <|
    cond (decide ((0:Int) < ([(i4.getD 0 0), (i4.getD 1 0), (i4.getD 2 0), (i4.getD 3 0), (i4.getD 4 0), (i4.getD 5 0), (i4.getD 6 0), (i4.getD 7 0), (i4.getD 8 0), (i4.getD 9 0), (i4.getD 10 0), (i4.getD 11 0), (i4.getD 12 0)].getD i6.toNat 0))) (
      rq (i_01.length + [(([(i4.getD 0 0), (i4.getD 1 0), (i4.getD 2 0), (i4.getD 3 0), (i4.getD 4 0), (i4.getD 5 0), (i4.getD 6 0), (i4.getD 7 0), (i4.getD 8 0), (i4.getD 9 0), (i4.getD 10 0), (i4.getD 11 0), (i4.getD 12 0)].getD i6.toNat 0), i6)].length ≤ bound) <|
      rq (i64 (i6 + (1:Int))) <|
      some (.inl (i5, (i6 + (1:Int)), (i_01 ++ [(([(i4.getD 0 0), (i4.getD 1 0), (i4.getD 2 0), (i4.getD 3 0), (i4.getD 4 0), (i4.getD 5 0), (i4.getD 6 0), (i4.getD 7 0), (i4.getD 8 0), (i4.getD 9 0), (i4.getD 10 0), (i4.getD 11 0), (i4.getD 12 0)].getD i6.toNat 0), i6)])))) (
      cond (decide (([(i4.getD 0 0), (i4.getD 1 0), (i4.getD 2 0), (i4.getD 3 0), (i4.getD 4 0), (i4.getD 5 0), (i4.getD 6 0), (i4.getD 7 0), (i4.getD 8 0), (i4.getD 9 0), (i4.getD 10 0), (i4.getD 11 0), (i4.getD 12 0)].getD i6.toNat 0) < (0:Int))) (
        rq (i64 (0 - ([(i4.getD 0 0), (i4.getD 1 0), (i4.getD 2 0), (i4.getD 3 0), (i4.getD 4 0), (i4.getD 5 0), (i4.getD 6 0), (i4.getD 7 0), (i4.getD 8 0), (i4.getD 9 0), (i4.getD 10 0), (i4.getD 11 0), (i4.getD 12 0)].getD i6.toNat 0))) <|
        rq (i64 (0 - i6)) <|
        rq (i_01.length + [((0 - ([(i4.getD 0 0), (i4.getD 1 0), (i4.getD 2 0), (i4.getD 3 0), (i4.getD 4 0), (i4.getD 5 0), (i4.getD 6 0), (i4.getD 7 0), (i4.getD 8 0), (i4.getD 9 0), (i4.getD 10 0), (i4.getD 11 0), (i4.getD 12 0)].getD i6.toNat 0)), (0 - i6))].length ≤ bound) <|
        impl_normal_j3 i5 i6 (([(i4.getD 0 0), (i4.getD 1 0), (i4.getD 2 0), (i4.getD 3 0), (i4.getD 4 0), (i4.getD 5 0), (i4.getD 6 0), (i4.getD 7 0), (i4.getD 8 0), (i4.getD 9 0), (i4.getD 10 0), (i4.getD 11 0), (i4.getD 12 0)].getD i6.toNat 0), (i_01 ++ [((0 - ([(i4.getD 0 0), (i4.getD 1 0), (i4.getD 2 0), (i4.getD 3 0), (i4.getD 4 0), (i4.getD 5 0), (i4.getD 6 0), (i4.getD 7 0), (i4.getD 8 0), (i4.getD 9 0), (i4.getD 10 0), (i4.getD 11 0), (i4.getD 12 0)].getD i6.toNat 0)), (0 - i6))]))) (
        rq (i64 (i6 + (1:Int))) <|
        some (.inl (i5, (i6 + (1:Int)), i_01))))) (
    up (impl_normal_j2 (i5, i_01)))

noncomputable def impl_normal_j1 : Int × (List Int) → Option (Bool × Int × (List (Int × Int))) := fun (i3, i4) =>
  rq ((0:Int) = 0 ∧ 0 = 0 ∧ 13 ≤ i4.length) <|
  loop (impl_normal_l1 i4) (i3, (0:Int), ([] : List (Int × Int)))

noncomputable def impl_normal_l2 (a0 : List (Int × Int)) : Int × Int × (List Int) → Option ((Int × Int × (List Int)) ⊕ (Bool × Int × (List (Int × Int)))) := fun (i, i1, i2) =>
  cond (decide (i1 < (a0.length:Int))) (
    rq (0 ≤ i1 ∧ i1 < a0.length) <|
    cond (decide ((a0.getD i1.toNat (0, 0)).2 < (0:Int))) (
      rq (i64 (i - (a0.getD i1.toNat (0, 0)).1)) <|
      rq (i64 (0 - (a0.getD i1.toNat (0, 0)).2)) <|
      rq ((0:Int) = 0 ∧ (0 ≤ (0 - (a0.getD i1.toNat (0, 0)).2) ∧ (0 - (a0.getD i1.toNat (0, 0)).2) < 13) ∧ 13 ≤ i2.length) <|
      rq (i64 ((i2.getD (0 - (a0.getD i1.toNat (0, 0)).2).toNat 0) - (a0.getD i1.toNat (0, 0)).1)) <|
      rq ((0:Int) = 0 ∧ (0 ≤ (0 - (a0.getD i1.toNat (0, 0)).2) ∧ (0 - (a0.getD i1.toNat (0, 0)).2) < 13) ∧ 13 ≤ i2.length) <|
      rq (i64 (i1 + (1:Int))) <|
      some (.inl ((i - (a0.getD i1.toNat (0, 0)).1), (i1 + (1:Int)), (i2.set (0 - (a0.getD i1.toNat (0, 0)).2).toNat ((i2.getD (0 - (a0.getD i1.toNat (0, 0)).2).toNat 0) - (a0.getD i1.toNat (0, 0)).1))))) (
      rq ((0:Int) = 0 ∧ (0 ≤ (a0.getD i1.toNat (0, 0)).2 ∧ (a0.getD i1.toNat (0, 0)).2 < 13) ∧ 13 ≤ i2.length) <|
      rq (i64 ((i2.getD (a0.getD i1.toNat (0, 0)).2.toNat 0) + (a0.getD i1.toNat (0, 0)).1)) <|
      rq ((0:Int) = 0 ∧ (0 ≤ (a0.getD i1.toNat (0, 0)).2 ∧ (a0.getD i1.toNat (0, 0)).2 < 13) ∧ 13 ≤ i2.length) <|
      rq (i64 (i1 + (1:Int))) <|
      some (.inl (i, (i1 + (1:Int)), (i2.set (a0.getD i1.toNat (0, 0)).2.toNat ((i2.getD (a0.getD i1.toNat (0, 0)).2.toNat 0) + (a0.getD i1.toNat (0, 0)).1)))))) (
    up (impl_normal_j1 (i, i2)))

noncomputable def impl_normal (a0 : List (Int × Int)) (a1 : Int) : Option (Bool × Int × (List (Int × Int))) :=
  loop (impl_normal_l2 a0) (a1, (0:Int), (List.replicate 13 0))

/-- impl.AtMostConstraint -/
noncomputable def impl_AtMostConstraint_j1 (most : Int) : (List (Int × Int)) → Option (Bool × Int × (List (Int × Int))) := fun terms3 =>
  rq (i64 (0 - most)) <|
  (impl_normal terms3 (0 - most)).bind fun r9_ =>
  some (r9_.1, r9_.2.1, r9_.2.2)

noncomputable def impl_AtMostConstraint_l2 (m : (List Int) × (List (Int × (List Int) × (List Int) × Int × (List (List Int))))) (coefs : List Int) (i : Int) : Int × (List (Int × Int)) → Option ((Int × (List (Int × Int))) ⊕ ((Int × (List (Int × Int))) ⊕ (Bool × Int × (List (Int × Int))))) := fun (i2, terms2) =>
  cond (decide (i2 < ((m.1.getD i.toNat 0) + (1:Int)))) (
    rq (0 ≤ i ∧ i < coefs.length) <|
    rq (i64 (0 - (coefs.getD i.toNat 0))) <|
    rq (i64 ((0 - (coefs.getD i.toNat 0)) * i2)) <|
    (impl_Model_boolVar m i i2).bind fun r8_ =>
    rq (terms2.length + [(((0 - (coefs.getD i.toNat 0)) * i2), r8_)].length ≤ bound) <|
    rq (i64 (i2 + (1:Int))) <|
    some (.inl ((i2 + (1:Int)), (terms2 ++ [(((0 - (coefs.getD i.toNat 0)) * i2), r8_)])))) (
    rq (i64 (i + (1:Int))) <|
    some (.inr (.inl ((i + (1:Int)), terms2))))

noncomputable def impl_AtMostConstraint_l1 (m : (List Int) × (List (Int × (List Int) × (List Int) × Int × (List (List Int))))) (coefs : List Int) (most : Int) : Int × (List (Int × Int)) → Option ((Int × (List (Int × Int))) ⊕ (Bool × Int × (List (Int × Int)))) := fun (i, terms1) =>
  cond (decide (i < (m.1.length:Int))) (
    rq (0 ≤ i ∧ i < m.1.length) <|
    rq (i64 ((m.1.getD i.toNat 0) + (1:Int))) <|
    loop (impl_AtMostConstraint_l2 m coefs i) ((0:Int), terms1)) (
    up (impl_AtMostConstraint_j1 most terms1))

noncomputable def impl_AtMostConstraint (m : (List Int) × (List (Int × (List Int) × (List Int) × Int × (List (List Int))))) (coefs : List Int) (most : Int) : Option (Bool × Int × (List (Int × Int))) :=
  (impl_ModelValid m).bind fun r1_ =>
  cond (!r1_) (
    some (false, (0:Int), ([] : List (Int × Int)))) (
    (impl_isObjective m coefs).bind fun r2_ =>
    cond (!r2_) (
      some (false, (0:Int), ([] : List (Int × Int)))) (
      (impl_within most (-1000:Int) (1000:Int)).bind fun r3_ =>
      cond (!r3_) (
        some (false, (0:Int), ([] : List (Int × Int)))) (
        loop (impl_AtMostConstraint_l1 m coefs most) ((0:Int), ([] : List (Int × Int))))))

/-- spec.l6Vars -/
noncomputable def spec_l6Vars_l2 (list_ : List Int) (i : Int) : Int → Option (Int ⊕ (Int ⊕ Bool)) := fun k_ =>
  cond (decide (k_ < i)) (
    rq (0 ≤ k_ ∧ k_ < list_.length) <|
    rq (0 ≤ i ∧ i < list_.length) <|
    cond ((list_.getD k_.toNat 0) == (list_.getD i.toNat 0)) (
      some (.inr (.inr false))) (
      rq (i64 (k_ + (1:Int))) <|
      some (.inl (k_ + (1:Int))))) (
    rq (i64 (i + (1:Int))) <|
    some (.inr (.inl (i + (1:Int)))))

noncomputable def spec_l6Vars_l1 (m : (List Int) × (List (Int × (List Int) × (List Int) × Int × (List (List Int))))) (list_ : List Int) : Int → Option (Int ⊕ Bool) := fun i =>
  cond (decide (i < (list_.length:Int))) (
    rq (0 ≤ i ∧ i < list_.length) <|
    cond (decide ((list_.getD i.toNat 0) < (0:Int))) (
      some (.inr false)) (
      rq (0 ≤ i ∧ i < list_.length) <|
      cond (decide ((m.1.length:Int) ≤ (list_.getD i.toNat 0))) (
        some (.inr false)) (
        loop (spec_l6Vars_l2 list_ i) (0:Int)))) (
    some (.inr (decide ((1:Int) ≤ (list_.length:Int)))))

noncomputable def spec_l6Vars (m : (List Int) × (List (Int × (List Int) × (List Int) × Int × (List (List Int))))) (list_ : List Int) : Option Bool :=
  loop (spec_l6Vars_l1 m list_) (0:Int)

/-- spec.l6Linear -/
noncomputable def spec_l6Linear_l1 (r_ : Int × (List Int) × (List Int) × Int × (List (List Int))) : Int → Option (Int ⊕ Bool) := fun i =>
  cond (decide (i < (r_.2.2.1.length:Int))) (
    rq (0 ≤ i ∧ i < r_.2.2.1.length) <|
    cond (decide ((r_.2.2.1.getD i.toNat 0) < (-9:Int))) (
      some (.inr false)) (
      rq (0 ≤ i ∧ i < r_.2.2.1.length) <|
      cond (decide ((9:Int) < (r_.2.2.1.getD i.toNat 0))) (
        some (.inr false)) (
        rq (0 ≤ i ∧ i < r_.2.2.1.length) <|
        cond ((r_.2.2.1.getD i.toNat 0) == (0:Int)) (
          some (.inr false)) (
          rq (i64 (i + (1:Int))) <|
          some (.inl (i + (1:Int))))))) (
    cond ((r_.2.2.1.length:Int) == (r_.2.1.length:Int)) (
      cond (decide ((-1000:Int) ≤ r_.2.2.2.1)) (
        some (.inr (decide (r_.2.2.2.1 ≤ (1000:Int))))) (
        some (.inr false))) (
      some (.inr false)))

noncomputable def spec_l6Linear (r_ : Int × (List Int) × (List Int) × Int × (List (List Int))) : Option Bool :=
  loop (spec_l6Linear_l1 r_) (0:Int)

/-- spec.l6Table -/
noncomputable def spec_l6Table_l2 (r_ : Int × (List Int) × (List Int) × Int × (List (List Int))) (i : Int) : Int → Option (Int ⊕ (Int ⊕ Bool)) := fun k_ =>
  rq (0 ≤ i ∧ i < r_.2.2.2.2.length) <|
  cond (decide (k_ < ((r_.2.2.2.2.getD i.toNat []).length:Int))) (
    rq (0 ≤ i ∧ i < r_.2.2.2.2.length) <|
    rq (0 ≤ k_ ∧ k_ < (r_.2.2.2.2.getD i.toNat []).length) <|
    cond (decide (((r_.2.2.2.2.getD i.toNat []).getD k_.toNat 0) < (0:Int))) (
      some (.inr (.inr false))) (
      rq (0 ≤ i ∧ i < r_.2.2.2.2.length) <|
      rq (0 ≤ k_ ∧ k_ < (r_.2.2.2.2.getD i.toNat []).length) <|
      cond (decide ((3:Int) < ((r_.2.2.2.2.getD i.toNat []).getD k_.toNat 0))) (
        some (.inr (.inr false))) (
        rq (i64 (k_ + (1:Int))) <|
        some (.inl (k_ + (1:Int)))))) (
    rq (i64 (i + (1:Int))) <|
    some (.inr (.inl (i + (1:Int)))))

noncomputable def spec_l6Table_l1 (r_ : Int × (List Int) × (List Int) × Int × (List (List Int))) : Int → Option (Int ⊕ Bool) := fun i =>
  cond (decide (i < (r_.2.2.2.2.length:Int))) (
    rq (0 ≤ i ∧ i < r_.2.2.2.2.length) <|
    cond (((r_.2.2.2.2.getD i.toNat []).length:Int) != (r_.2.1.length:Int)) (
      some (.inr false)) (
      loop (spec_l6Table_l2 r_ i) (0:Int))) (
    some (.inr (decide ((r_.2.2.2.2.length:Int) ≤ (8:Int)))))

noncomputable def spec_l6Table (r_ : Int × (List Int) × (List Int) × Int × (List (List Int))) : Option Bool :=
  loop (spec_l6Table_l1 r_) (0:Int)

/-- spec.l6Rule -/
noncomputable def spec_l6Rule_j1 (r_ : Int × (List Int) × (List Int) × Int × (List (List Int))) : Unit → Option Bool := fun _ =>
  cond (r_.1 == (1:Int)) (
    (spec_l6Linear r_).bind fun r2_ =>
    some r2_) (
    cond (r_.1 == (2:Int)) (
      some true) (
      cond (r_.1 == (3:Int)) (
        (spec_l6Table r_).bind fun r3_ =>
        some r3_) (
        cond (r_.1 == (4:Int)) (
          some ((r_.2.1.length:Int) == (2:Int))) (
          some false))))

noncomputable def spec_l6Rule (m : (List Int) × (List (Int × (List Int) × (List Int) × Int × (List (List Int))))) (r_ : Int × (List Int) × (List Int) × Int × (List (List Int))) : Option Bool :=
  (spec_l6Vars m r_.2.1).bind fun r1_ =>
  cond (!r1_) (
    some false) (
    cond (r_.1 != (1:Int)) (
      cond ((r_.2.2.1.length:Int) != (0:Int)) (
        some false) (
        cond (r_.2.2.2.1 != (0:Int)) (
          some false) (
          cond (r_.1 != (3:Int)) (
            cond ((r_.2.2.2.2.length:Int) != (0:Int)) (
              some false) (
              spec_l6Rule_j1 r_ ())) (
            spec_l6Rule_j1 r_ ())))) (
      cond (r_.1 != (3:Int)) (
        cond ((r_.2.2.2.2.length:Int) != (0:Int)) (
          some false) (
          spec_l6Rule_j1 r_ ())) (
        spec_l6Rule_j1 r_ ())))

/-- spec.ModelValid -/
noncomputable def spec_ModelValid_l1 (a0 : (List Int) × (List (Int × (List Int) × (List Int) × Int × (List (List Int))))) : Int → Option (Int ⊕ Bool) := fun i3 =>
  cond (decide (i3 < (a0.2.length:Int))) (
    rq (0 ≤ i3 ∧ i3 < a0.2.length) <|
    (spec_l6Rule a0 (a0.2.getD i3.toNat (0, ([], ([], (0, [])))))).bind fun r2_ =>
    cond (!r2_) (
      some (.inr false)) (
      rq (i64 (i3 + (1:Int))) <|
      some (.inl (i3 + (1:Int))))) (
    some (.inr true))

noncomputable def spec_ModelValid_j1 (a0 : (List Int) × (List (Int × (List Int) × (List Int) × Int × (List (List Int))))) : Int → Option Bool := fun i2 =>
  cond (decide ((a0.1.length:Int) < (1:Int))) (
    some false) (
    cond (decide ((5:Int) < (a0.1.length:Int))) (
      some false) (
      cond (decide ((12:Int) < i2)) (
        some false) (
        cond (decide ((8:Int) < (a0.2.length:Int))) (
          some false) (
          loop (spec_ModelValid_l1 a0) (0:Int)))))

noncomputable def spec_ModelValid_l2 (a0 : (List Int) × (List (Int × (List Int) × (List Int) × Int × (List (List Int))))) : Int × Int → Option ((Int × Int) ⊕ Bool) := fun (i, i1) =>
  cond (decide (i1 < (a0.1.length:Int))) (
    cond (decide (i1 < (5:Int))) (
      rq (0 ≤ i1 ∧ i1 < a0.1.length) <|
      cond (decide ((a0.1.getD i1.toNat 0) < (0:Int))) (
        some (.inr false)) (
        rq (0 ≤ i1 ∧ i1 < a0.1.length) <|
        cond (decide ((3:Int) < (a0.1.getD i1.toNat 0))) (
          some (.inr false)) (
          rq (0 ≤ i1 ∧ i1 < a0.1.length) <|
          rq (i64 (i + (a0.1.getD i1.toNat 0))) <|
          rq (i64 ((i + (a0.1.getD i1.toNat 0)) + (1:Int))) <|
          rq (i64 (i1 + (1:Int))) <|
          some (.inl (((i + (a0.1.getD i1.toNat 0)) + (1:Int)), (i1 + (1:Int))))))) (
      up (spec_ModelValid_j1 a0 i))) (
    up (spec_ModelValid_j1 a0 i))

noncomputable def spec_ModelValid (a0 : (List Int) × (List (Int × (List Int) × (List Int) × Int × (List (List Int))))) : Option Bool :=
  loop (spec_ModelValid_l2 a0) ((0:Int), (0:Int))

/-- spec.l9Coefs -/
noncomputable def spec_l9Coefs_l1 (coefs : List Int) : Int → Option (Int ⊕ Bool) := fun i =>
  cond (decide (i < (coefs.length:Int))) (
    rq (0 ≤ i ∧ i < coefs.length) <|
    cond (decide ((coefs.getD i.toNat 0) < (-9:Int))) (
      some (.inr false)) (
      rq (0 ≤ i ∧ i < coefs.length) <|
      cond (decide ((9:Int) < (coefs.getD i.toNat 0))) (
        some (.inr false)) (
        rq (i64 (i + (1:Int))) <|
        some (.inl (i + (1:Int)))))) (
    some (.inr true))

noncomputable def spec_l9Coefs (m : (List Int) × (List (Int × (List Int) × (List Int) × Int × (List (List Int))))) (coefs : List Int) : Option Bool :=
  (spec_ModelValid m).bind fun r1_ =>
  cond (!r1_) (
    some false) (
    cond ((coefs.length:Int) != (m.1.length:Int)) (
      some false) (
      loop (spec_l9Coefs_l1 coefs) (0:Int)))

/-- spec.l7Var -/
noncomputable def spec_l7Var_l1 (m : (List Int) × (List (Int × (List Int) × (List Int) × Int × (List (List Int))))) (cell : Int) : Int × Int → Option ((Int × Int) ⊕ Int) := fun (n, i) =>
  cond (decide (i < cell)) (
    rq (0 ≤ i ∧ i < m.1.length) <|
    rq (i64 (n + (m.1.getD i.toNat 0))) <|
    rq (i64 ((n + (m.1.getD i.toNat 0)) + (1:Int))) <|
    rq (i64 (i + (1:Int))) <|
    some (.inl (((n + (m.1.getD i.toNat 0)) + (1:Int)), (i + (1:Int))))) (
    some (.inr n))

noncomputable def spec_l7Var (m : (List Int) × (List (Int × (List Int) × (List Int) × Int × (List (List Int))))) (cell : Int) (value : Int) : Option Int :=
  rq (i64 ((1:Int) + value)) <|
  loop (spec_l7Var_l1 m cell) (((1:Int) + value), (0:Int))

/-- spec.l1Lit -/
noncomputable def spec_l1Lit (n : Int) : Option Bool :=
  cond (n != (0:Int)) (
    cond (decide ((-12:Int) ≤ n)) (
      some (decide (n ≤ (12:Int)))) (
      some false)) (
    some false)

/-- spec.l1Abs -/
noncomputable def spec_l1Abs (n : Int) : Option Int :=
  cond (decide (n < (0:Int))) (
    rq (i64 (0 - n)) <|
    some (0 - n)) (
    some n)

/-- spec.ConstraintValid -/
noncomputable def spec_ConstraintValid_l1 (c_ : (List (Int × Int)) × Int) : Int → Option (Int ⊕ Bool) := fun i =>
  cond (decide (i < (c_.1.length:Int))) (
    rq (0 ≤ i ∧ i < c_.1.length) <|
    (spec_l1Lit (c_.1.getD i.toNat (0, 0)).2).bind fun r4_ =>
    cond (!r4_) (
      some (.inr false)) (
      cond (decide ((c_.1.getD i.toNat (0, 0)).1 < (1:Int))) (
        some (.inr false)) (
        cond (decide ((1000:Int) < (c_.1.getD i.toNat (0, 0)).1)) (
          some (.inr false)) (
          cond (decide ((0:Int) < i)) (
            rq (i64 (i - (1:Int))) <|
            rq (0 ≤ (i - (1:Int)) ∧ (i - (1:Int)) < c_.1.length) <|
            (spec_l1Abs (c_.1.getD (i - (1:Int)).toNat (0, 0)).2).bind fun r5_ =>
            (spec_l1Abs (c_.1.getD i.toNat (0, 0)).2).bind fun r6_ =>
            cond (decide (r6_ ≤ r5_)) (
              some (.inr false)) (
              rq (i64 (i + (1:Int))) <|
              some (.inl (i + (1:Int))))) (
            rq (i64 (i + (1:Int))) <|
            some (.inl (i + (1:Int)))))))) (
    cond (decide ((0:Int) ≤ c_.2)) (
      some (.inr (decide (c_.2 ≤ (20000:Int))))) (
      some (.inr false)))

noncomputable def spec_ConstraintValid (c_ : (List (Int × Int)) × Int) : Option Bool :=
  loop (spec_ConstraintValid_l1 c_) (0:Int)

/-- spec.l1Normal -/
noncomputable def spec_l1Normal_j2 (c_03 : List (Int × Int)) : Int → Option (Bool × Int × (List (Int × Int))) := fun bound_3 =>
  (spec_ConstraintValid (c_03, bound_3)).bind fun r1_ =>
  cond (!r1_) (
    some (false, (0:Int), ([] : List (Int × Int)))) (
    some (true, bound_3, c_03))

noncomputable def spec_l1Normal_j1 : Int × (List (Int × Int)) → Option (Bool × Int × (List (Int × Int))) := fun (bound_2, c_03) =>
  cond (decide (bound_2 < (0:Int))) (
    spec_l1Normal_j2 c_03 (0:Int)) (
    spec_l1Normal_j2 c_03 bound_2)

noncomputable def spec_l1Normal_j4 (net : List Int) (bound_1 : Int) (v : Int) (c_02 : List (Int × Int)) : Unit → Option ((Int × Int × (List (Int × Int))) ⊕ (Bool × Int × (List (Int × Int)))) := fun _ =>
  rq (0 ≤ v ∧ v < net.length) <|
  rq (i64 (bound_1 - (net.getD v.toNat 0))) <|
  rq (i64 (v + (1:Int))) <|
  some (.inl ((bound_1 - (net.getD v.toNat 0)), (v + (1:Int)), (c_02 ++ [((0 - (net.getD v.toNat 0)), (0 - v))])))

noncomputable def spec_l1Normal_j3 (net : List Int) (bound_1 : Int) (v : Int) : (List (Int × Int)) → Option ((Int × Int × (List (Int × Int))) ⊕ (Bool × Int × (List (Int × Int)))) := fun c_02 =>
  rq (0 ≤ v ∧ v < net.length) <|
  cond (decide ((net.getD v.toNat 0) < (0:Int))) (
    rq (0 ≤ v ∧ v < net.length) <|
    rq (i64 (0 - (net.getD v.toNat 0))) <|
    rq (i64 (0 - v)) <|
    rq (c_02.length + [((0 - (net.getD v.toNat 0)), (0 - v))].length ≤ bound) <|
    spec_l1Normal_j4 net bound_1 v c_02 ()) (
    rq (i64 (v + (1:Int))) <|
    some (.inl (bound_1, (v + (1:Int)), c_02)))

noncomputable def spec_l1Normal_l1 (net : List Int) : Int × Int × (List (Int × Int)) → Option ((Int × Int × (List (Int × Int))) ⊕ (Bool × Int × (List (Int × Int)))) := fun (bound_1, v, c_01) =>
  cond (decide (v ≤ (12:Int))) (
    rq (0 ≤ v ∧ v < net.length) <|
    cond (decide ((0:Int) < (net.getD v.toNat 0))) (
      rq (0 ≤ v ∧ v < net.length) <|
      rq (c_01.length + [((net.getD v.toNat 0), v)].length ≤ bound) <|
      spec_l1Normal_j3 net bound_1 v (c_01 ++ [((net.getD v.toNat 0), v)])) (
      spec_l1Normal_j3 net bound_1 v c_01)) (
    up (spec_l1Normal_j1 (bound_1, c_01)))

noncomputable def spec_l1Normal (net : List Int) (bound_ : Int) : Option (Bool × Int × (List (Int × Int))) :=
  loop (spec_l1Normal_l1 net) (bound_, (1:Int), ([] : List (Int × Int)))

/-- spec.AtMostConstraint -/
noncomputable def spec_AtMostConstraint_j1 (most : Int) : (List Int) → Option (Bool × Int × (List (Int × Int))) := fun net3 =>
  rq (i64 (0 - most)) <|
  (spec_l1Normal net3 (0 - most)).bind fun r7_ =>
  some (r7_.1, r7_.2.1, r7_.2.2)

noncomputable def spec_AtMostConstraint_l2 (m : (List Int) × (List (Int × (List Int) × (List Int) × Int × (List (List Int))))) (coefs : List Int) (i : Int) : Int × (List Int) → Option ((Int × (List Int)) ⊕ ((Int × (List Int)) ⊕ (Bool × Int × (List (Int × Int))))) := fun (k_1, net2) =>
  rq (0 ≤ i ∧ i < m.1.length) <|
  cond (decide (k_1 ≤ (m.1.getD i.toNat 0))) (
    rq (0 ≤ i ∧ i < coefs.length) <|
    rq (i64 (0 - (coefs.getD i.toNat 0))) <|
    rq (i64 ((0 - (coefs.getD i.toNat 0)) * k_1)) <|
    (spec_l7Var m i k_1).bind fun r6_ =>
    rq (0 ≤ r6_ ∧ r6_ < net2.length) <|
    rq (i64 (k_1 + (1:Int))) <|
    some (.inl ((k_1 + (1:Int)), (net2.set r6_.toNat ((0 - (coefs.getD i.toNat 0)) * k_1))))) (
    rq (i64 (i + (1:Int))) <|
    some (.inr (.inl ((i + (1:Int)), net2))))

noncomputable def spec_AtMostConstraint_l1 (m : (List Int) × (List (Int × (List Int) × (List Int) × Int × (List (List Int))))) (coefs : List Int) (most : Int) : Int × (List Int) → Option ((Int × (List Int)) ⊕ (Bool × Int × (List (Int × Int)))) := fun (i, net1) =>
  cond (decide (i < (coefs.length:Int))) (
    loop (spec_AtMostConstraint_l2 m coefs i) ((0:Int), net1)) (
    up (spec_AtMostConstraint_j1 most net1))

noncomputable def spec_AtMostConstraint (m : (List Int) × (List (Int × (List Int) × (List Int) × Int × (List (List Int))))) (coefs : List Int) (most : Int) : Option (Bool × Int × (List (Int × Int))) :=
  (spec_l9Coefs m coefs).bind fun r1_ =>
  cond (!r1_) (
    some (false, (0:Int), ([] : List (Int × Int)))) (
    cond (decide (most < (-1000:Int))) (
      some (false, (0:Int), ([] : List (Int × Int)))) (
      cond (decide ((1000:Int) < most)) (
        some (false, (0:Int), ([] : List (Int × Int)))) (
        rq (0 ≤ (13:Int) ∧ (13:Int) ≤ bound ∧ (13:Int) = (13:Int)) <|
        loop (spec_AtMostConstraint_l1 m coefs most) ((0:Int), (List.replicate (13:Int).toNat 0)))))

/-- slices.Equal[[]impl.Term,impl.Term] -/
noncomputable def slices_Equal_impl_Term_l1 (s1_ : List (Int × Int)) (s2_ : List (Int × Int)) : Int → Option (Int ⊕ Bool) := fun i =>
  cond (decide (i < (s1_.length:Int))) (
    rq (0 ≤ i ∧ i < s1_.length) <|
    rq (0 ≤ i ∧ i < s2_.length) <|
    cond (!((s1_.getD i.toNat (0, 0)).1 == (s2_.getD i.toNat (0, 0)).1 && (s1_.getD i.toNat (0, 0)).2 == (s2_.getD i.toNat (0, 0)).2)) (
      some (.inr false)) (
      rq (i64 (i + (1:Int))) <|
      some (.inl (i + (1:Int))))) (
    some (.inr true))

noncomputable def slices_Equal_impl_Term (s1_ : List (Int × Int)) (s2_ : List (Int × Int)) : Option Bool :=
  cond ((s1_.length:Int) != (s2_.length:Int)) (
    some false) (
    loop (slices_Equal_impl_Term_l1 s1_ s2_) (0:Int))

/-- impl.ConstraintSame -/
noncomputable def impl_ConstraintSame (a : (List (Int × Int)) × Int) (b : (List (Int × Int)) × Int) : Option Bool :=
  cond (a.2 == b.2) (
    (slices_Equal_impl_Term a.1 b.1).bind fun r1_ =>
    some r1_) (
    some false)

/-- impl.CellsValid -/
noncomputable def impl_CellsValid_l1 (m : (List Int) × (List (Int × (List Int) × (List Int) × Int × (List (List Int))))) (cells : List Int) : Int → Option (Int ⊕ Bool) := fun i =>
  cond (decide (i < (cells.length:Int))) (
    rq (0 ≤ i ∧ i < cells.length) <|
    rq (0 ≤ i ∧ i < m.1.length) <|
    (impl_within (cells.getD i.toNat 0) (0:Int) (m.1.getD i.toNat 0)).bind fun r2_ =>
    cond (!r2_) (
      some (.inr false)) (
      rq (i64 (i + (1:Int))) <|
      some (.inl (i + (1:Int))))) (
    some (.inr true))

noncomputable def impl_CellsValid (m : (List Int) × (List (Int × (List Int) × (List Int) × Int × (List (List Int))))) (cells : List Int) : Option Bool :=
  (impl_ModelValid m).bind fun r1_ =>
  cond (!r1_) (
    some false) (
    cond ((cells.length:Int) != (m.1.length:Int)) (
      some false) (
      loop (impl_CellsValid_l1 m cells) (0:Int)))

/-- impl.EncodeCells -/
noncomputable def impl_EncodeCells_l1 (m : (List Int) × (List (Int × (List Int) × (List Int) × Int × (List (List Int))))) (cells : List Int) : Int × (List Bool) → Option ((Int × (List Bool)) ⊕ (Bool × (List Bool))) := fun (i, out) =>
  cond (decide (i < (cells.length:Int))) (
    rq (0 ≤ i ∧ i < cells.length) <|
    (impl_Model_boolVar m i (cells.getD i.toNat 0)).bind fun r3_ =>
    rq (i64 (r3_ - (1:Int))) <|
    rq (0 ≤ (r3_ - (1:Int)) ∧ (r3_ - (1:Int)) < out.length) <|
    rq (i64 (i + (1:Int))) <|
    some (.inl ((i + (1:Int)), (out.set (r3_ - (1:Int)).toNat true)))) (
    some (.inr (true, out)))

noncomputable def impl_EncodeCells (m : (List Int) × (List (Int × (List Int) × (List Int) × Int × (List (List Int))))) (cells : List Int) : Option (Bool × (List Bool)) :=
  (impl_CellsValid m cells).bind fun r1_ =>
  cond (!r1_) (
    some (false, ([] : List Bool))) (
    rq (0 ≤ (12:Int) ∧ (12:Int) ≤ bound ∧ (12:Int) = (12:Int)) <|
    loop (impl_EncodeCells_l1 m cells) ((0:Int), (List.replicate (12:Int).toNat false)))

/-- impl.valueOf -/
noncomputable def impl_valueOf_l1 (coefs : List Int) (cells : List Int) : Int × Int → Option ((Int × Int) ⊕ Int) := fun (sum, i) =>
  cond (decide (i < (cells.length:Int))) (
    rq (0 ≤ i ∧ i < cells.length) <|
    rq (0 ≤ i ∧ i < coefs.length) <|
    rq (i64 ((coefs.getD i.toNat 0) * (cells.getD i.toNat 0))) <|
    rq (i64 (sum + ((coefs.getD i.toNat 0) * (cells.getD i.toNat 0)))) <|
    rq (i64 (i + (1:Int))) <|
    some (.inl ((sum + ((coefs.getD i.toNat 0) * (cells.getD i.toNat 0))), (i + (1:Int))))) (
    some (.inr sum))

noncomputable def impl_valueOf (coefs : List Int) (cells : List Int) : Option Int :=
  loop (impl_valueOf_l1 coefs cells) ((0:Int), (0:Int))

/-- impl.ObjectiveValue -/
noncomputable def impl_ObjectiveValue (m : (List Int) × (List (Int × (List Int) × (List Int) × Int × (List (List Int))))) (coefs : List Int) (cells : List Int) : Option (Int × Bool) :=
  (impl_CellsValid m cells).bind fun r1_ =>
  cond (!r1_) (
    some ((0:Int), false)) (
    (impl_isObjective m coefs).bind fun r2_ =>
    cond (!r2_) (
      some ((0:Int), false)) (
      (impl_valueOf coefs cells).bind fun r3_ =>
      some (r3_, true)))

/-- impl.holds -/
noncomputable def impl_holds (l : Int) (values : List Bool) : Option Bool :=
  (impl_variableOf l).bind fun r1_ =>
  rq (i64 (r1_ - (1:Int))) <|
  rq (0 ≤ (r1_ - (1:Int)) ∧ (r1_ - (1:Int)) < values.length) <|
  some ((values.getD (r1_ - (1:Int)).toNat false) == (decide ((0:Int) < l)))

/-- (impl.Constraint).holds -/
noncomputable def impl_Constraint_holds_l1 (c_ : (List (Int × Int)) × Int) (values : List Bool) : Int × Int → Option ((Int × Int) ⊕ Bool) := fun (sum, i) =>
  cond (decide (i < (c_.1.length:Int))) (
    rq (0 ≤ i ∧ i < c_.1.length) <|
    (impl_holds (c_.1.getD i.toNat (0, 0)).2 values).bind fun r1_ =>
    cond r1_ (
      rq (i64 (sum + (c_.1.getD i.toNat (0, 0)).1)) <|
      rq (i64 (i + (1:Int))) <|
      some (.inl ((sum + (c_.1.getD i.toNat (0, 0)).1), (i + (1:Int))))) (
      rq (i64 (i + (1:Int))) <|
      some (.inl (sum, (i + (1:Int)))))) (
    some (.inr (decide (c_.2 ≤ sum))))

noncomputable def impl_Constraint_holds (c_ : (List (Int × Int)) × Int) (values : List Bool) : Option Bool :=
  loop (impl_Constraint_holds_l1 c_ values) ((0:Int), (0:Int))

/-- impl.EvalConstraint -/
noncomputable def impl_EvalConstraint (c_ : (List (Int × Int)) × Int) (values : List Bool) : Option Bool :=
  (impl_ConstraintValid c_).bind fun r1_ =>
  cond r1_ (
    cond ((values.length:Int) == (12:Int)) (
      (impl_Constraint_holds c_ values).bind fun r2_ =>
      some r2_) (
      some false)) (
    some false)

/-- laws.FnAtMostConstraint -/
noncomputable def laws_FnAtMostConstraint (a0 : List Int) (a1 : List Int) : Option Bool :=
  cond (decide ((1048576:Int) < (a0.length:Int))) (
    some true) (
    cond (decide ((1048576:Int) < (a1.length:Int))) (
      some true) (
      (spec_DrawObjectiveValue a0).bind fun r1_ =>
      (spec_DrawAtMostConstraint a1).bind fun r2_ =>
      (impl_AtMostConstraint r1_.2.2 r1_.1 r2_.1).bind fun r3_ =>
      (spec_AtMostConstraint r1_.2.2 r1_.1 r2_.1).bind fun r4_ =>
      cond (r3_.1 != r4_.1) (
        cond (r3_.1 == r4_.1) (
          (impl_ConstraintSame (r3_.2.2, r3_.2.1) (r4_.2.2, r4_.2.1)).bind fun r8_ =>
          some r8_) (
          some false)) (
        (impl_ConstraintSame (r3_.2.2, r3_.2.1) (r4_.2.2, r4_.2.1)).bind fun r5_ =>
        cond (!r5_) (
          cond (r3_.1 == r4_.1) (
            (impl_ConstraintSame (r3_.2.2, r3_.2.1) (r4_.2.2, r4_.2.1)).bind fun r7_ =>
            some r7_) (
            some false)) (
          cond (!r3_.1) (
            cond (r3_.1 == r4_.1) (
              (impl_ConstraintSame (r3_.2.2, r3_.2.1) (r4_.2.2, r4_.2.1)).bind fun r6_ =>
              some r6_) (
              some false)) (
            (impl_EncodeCells r1_.2.2 r1_.2.1).bind fun r9_ =>
            (impl_ObjectiveValue r1_.2.2 r1_.1 r1_.2.1).bind fun r10_ =>
            (impl_ConstraintValid (r3_.2.2, r3_.2.1)).bind fun r11_ =>
            cond r11_ (
              cond (!r9_.1) (
                some true) (
                cond (!r10_.2) (
                  some true) (
                  (impl_EvalConstraint (r3_.2.2, r3_.2.1) r9_.2).bind fun r12_ =>
                  some (r12_ == (decide (r10_.1 ≤ r2_.1)))))) (
              some false))))))

end Go.AE.Y
