/-
  Models of the functions: what each computes, as a Lean function into Option. Definitions alone.
-/
import Derived.Test.YtpjbfmifmikloaaAEx3
namespace Go.AE.Y
open Go Go.AE
set_option linter.unusedVariables false

/-- spec.l17Open -/
noncomputable def spec_l17Open_j1 : (List Int) → Option (((List Int) × Int)) := fun code1 =>
  some (code1, (0:Int))

noncomputable def spec_l17Open (code : List Int) : Option (((List Int) × Int)) :=
  cond (decide ((2000:Int) < (code.length:Int))) (
    rq (0 ≤ (2000:Int) ∧ (2000:Int) ≤ code.length) <|
    spec_l17Open_j1 (code.take (2000:Int).toNat)) (
    spec_l17Open_j1 code)

/-- (*spec.l17Rd).pick -/
noncomputable def spec_l17Rd_pick (a1 : Int) (o0 : (List Int) × Int) : Option (Int × ((List Int) × Int)) :=
  rq (i64 (o0.2 + (1:Int))) <|
  cond (decide (a1 < (1:Int))) (
    some ((0:Int), (o0.1, (o0.2 + (1:Int))))) (
    cond ((o0.1.length:Int) == (0:Int)) (
      some ((0:Int), (o0.1, (o0.2 + (1:Int))))) (
      rq (i64 ((o0.2 + (1:Int)) - (1:Int))) <|
      cond (decide (((o0.2 + (1:Int)) - (1:Int)) < (o0.1.length:Int))) (
        rq (0 ≤ ((o0.2 + (1:Int)) - (1:Int)) ∧ ((o0.2 + (1:Int)) - (1:Int)) < o0.1.length) <|
        rq (i64 (o0.1.getD ((o0.2 + (1:Int)) - (1:Int)).toNat 0)) <|
        rq (1 ≤ a1 ∧ 0 ≤ (o0.1.getD ((o0.2 + (1:Int)) - (1:Int)).toNat 0)) <|
        some (((o0.1.getD ((o0.2 + (1:Int)) - (1:Int)).toNat 0) % a1), (o0.1, (o0.2 + (1:Int))))) (
        rq (1 ≤ (o0.1.length:Int) ∧ 0 ≤ ((o0.2 + (1:Int)) - (1:Int))) <|
        rq (0 ≤ (((o0.2 + (1:Int)) - (1:Int)) % (o0.1.length:Int)) ∧ (((o0.2 + (1:Int)) - (1:Int)) % (o0.1.length:Int)) < o0.1.length) <|
        rq (i64 (o0.1.getD (((o0.2 + (1:Int)) - (1:Int)) % (o0.1.length:Int)).toNat 0)) <|
        rq (i64 ((o0.1.getD (((o0.2 + (1:Int)) - (1:Int)) % (o0.1.length:Int)).toNat 0) * (131:Int))) <|
        rq (i64 (((o0.2 + (1:Int)) - (1:Int)) * (7:Int))) <|
        rq (i64 ((((o0.2 + (1:Int)) - (1:Int)) * (7:Int)) + (3:Int))) <|
        rq (1 ≤ (o0.1.length:Int) ∧ 0 ≤ ((((o0.2 + (1:Int)) - (1:Int)) * (7:Int)) + (3:Int))) <|
        rq (0 ≤ (((((o0.2 + (1:Int)) - (1:Int)) * (7:Int)) + (3:Int)) % (o0.1.length:Int)) ∧ (((((o0.2 + (1:Int)) - (1:Int)) * (7:Int)) + (3:Int)) % (o0.1.length:Int)) < o0.1.length) <|
        rq (i64 (o0.1.getD (((((o0.2 + (1:Int)) - (1:Int)) * (7:Int)) + (3:Int)) % (o0.1.length:Int)).toNat 0)) <|
        rq (i64 ((o0.1.getD (((((o0.2 + (1:Int)) - (1:Int)) * (7:Int)) + (3:Int)) % (o0.1.length:Int)).toNat 0) * (1117:Int))) <|
        rq (i64 (((o0.1.getD (((o0.2 + (1:Int)) - (1:Int)) % (o0.1.length:Int)).toNat 0) * (131:Int)) + ((o0.1.getD (((((o0.2 + (1:Int)) - (1:Int)) * (7:Int)) + (3:Int)) % (o0.1.length:Int)).toNat 0) * (1117:Int)))) <|
        rq (i64 (((o0.2 + (1:Int)) - (1:Int)) * (29:Int))) <|
        rq (i64 ((((o0.1.getD (((o0.2 + (1:Int)) - (1:Int)) % (o0.1.length:Int)).toNat 0) * (131:Int)) + ((o0.1.getD (((((o0.2 + (1:Int)) - (1:Int)) * (7:Int)) + (3:Int)) % (o0.1.length:Int)).toNat 0) * (1117:Int))) + (((o0.2 + (1:Int)) - (1:Int)) * (29:Int)))) <|
        rq (1 ≤ (o0.1.length:Int) ∧ 0 ≤ ((o0.2 + (1:Int)) - (1:Int))) <|
        rq (i64 ((((o0.2 + (1:Int)) - (1:Int)) / (o0.1.length:Int)) * (53:Int))) <|
        rq (i64 (((((o0.1.getD (((o0.2 + (1:Int)) - (1:Int)) % (o0.1.length:Int)).toNat 0) * (131:Int)) + ((o0.1.getD (((((o0.2 + (1:Int)) - (1:Int)) * (7:Int)) + (3:Int)) % (o0.1.length:Int)).toNat 0) * (1117:Int))) + (((o0.2 + (1:Int)) - (1:Int)) * (29:Int))) + ((((o0.2 + (1:Int)) - (1:Int)) / (o0.1.length:Int)) * (53:Int)))) <|
        rq (1 ≤ (64:Int) ∧ 0 ≤ (((((o0.1.getD (((o0.2 + (1:Int)) - (1:Int)) % (o0.1.length:Int)).toNat 0) * (131:Int)) + ((o0.1.getD (((((o0.2 + (1:Int)) - (1:Int)) * (7:Int)) + (3:Int)) % (o0.1.length:Int)).toNat 0) * (1117:Int))) + (((o0.2 + (1:Int)) - (1:Int)) * (29:Int))) + ((((o0.2 + (1:Int)) - (1:Int)) / (o0.1.length:Int)) * (53:Int)))) <|
        rq (0 ≤ (((((o0.1.getD (((o0.2 + (1:Int)) - (1:Int)) % (o0.1.length:Int)).toNat 0) * (131:Int)) + ((o0.1.getD (((((o0.2 + (1:Int)) - (1:Int)) * (7:Int)) + (3:Int)) % (o0.1.length:Int)).toNat 0) * (1117:Int))) + (((o0.2 + (1:Int)) - (1:Int)) * (29:Int))) + ((((o0.2 + (1:Int)) - (1:Int)) / (o0.1.length:Int)) * (53:Int))) ∧ 0 ≤ ((((((o0.1.getD (((o0.2 + (1:Int)) - (1:Int)) % (o0.1.length:Int)).toNat 0) * (131:Int)) + ((o0.1.getD (((((o0.2 + (1:Int)) - (1:Int)) * (7:Int)) + (3:Int)) % (o0.1.length:Int)).toNat 0) * (1117:Int))) + (((o0.2 + (1:Int)) - (1:Int)) * (29:Int))) + ((((o0.2 + (1:Int)) - (1:Int)) / (o0.1.length:Int)) * (53:Int))) / (64:Int))) <|
        rq (1 ≤ a1 ∧ 0 ≤ (((((((o0.1.getD (((o0.2 + (1:Int)) - (1:Int)) % (o0.1.length:Int)).toNat 0) * (131:Int)) + ((o0.1.getD (((((o0.2 + (1:Int)) - (1:Int)) * (7:Int)) + (3:Int)) % (o0.1.length:Int)).toNat 0) * (1117:Int))) + (((o0.2 + (1:Int)) - (1:Int)) * (29:Int))) + ((((o0.2 + (1:Int)) - (1:Int)) / (o0.1.length:Int)) * (53:Int))).toNat ^^^ ((((((o0.1.getD (((o0.2 + (1:Int)) - (1:Int)) % (o0.1.length:Int)).toNat 0) * (131:Int)) + ((o0.1.getD (((((o0.2 + (1:Int)) - (1:Int)) * (7:Int)) + (3:Int)) % (o0.1.length:Int)).toNat 0) * (1117:Int))) + (((o0.2 + (1:Int)) - (1:Int)) * (29:Int))) + ((((o0.2 + (1:Int)) - (1:Int)) / (o0.1.length:Int)) * (53:Int))) / (64:Int)).toNat : Nat) : Int)) <|
        some (((((((((o0.1.getD (((o0.2 + (1:Int)) - (1:Int)) % (o0.1.length:Int)).toNat 0) * (131:Int)) + ((o0.1.getD (((((o0.2 + (1:Int)) - (1:Int)) * (7:Int)) + (3:Int)) % (o0.1.length:Int)).toNat 0) * (1117:Int))) + (((o0.2 + (1:Int)) - (1:Int)) * (29:Int))) + ((((o0.2 + (1:Int)) - (1:Int)) / (o0.1.length:Int)) * (53:Int))).toNat ^^^ ((((((o0.1.getD (((o0.2 + (1:Int)) - (1:Int)) % (o0.1.length:Int)).toNat 0) * (131:Int)) + ((o0.1.getD (((((o0.2 + (1:Int)) - (1:Int)) * (7:Int)) + (3:Int)) % (o0.1.length:Int)).toNat 0) * (1117:Int))) + (((o0.2 + (1:Int)) - (1:Int)) * (29:Int))) + ((((o0.2 + (1:Int)) - (1:Int)) / (o0.1.length:Int)) * (53:Int))) / (64:Int)).toNat : Nat) : Int) % a1), (o0.1, (o0.2 + (1:Int)))))))

/-- (*spec.l17Rd).num -/
noncomputable def spec_l17Rd_num (list_ : List Int) (r_ : (List Int) × Int) : Option (Int × ((List Int) × Int)) :=
  (spec_l17Rd_pick (list_.length:Int) r_).bind fun r1_ =>
  rq (0 ≤ r1_.1 ∧ r1_.1 < list_.length) <|
  some ((list_.getD r1_.1.toNat 0), r1_.2)

/-- spec.l6Some -/
noncomputable def spec_l6Some__rsd_j3 (i3 : (List Int) × Int) : (List Int) → Option (((List Int) × Int) × (List Int)) := fun i12 =>
  cond (decide ((1:Int) < (i12.length:Int))) (
    (spec_l17Rd_pick (3:Int) i3).bind fun r3_ =>
    cond (r3_.1 == (0:Int)) (
      rq (0 ≤ (0:Int) ∧ (0:Int) < i12.length) <|
      rq (0 ≤ (1:Int) ∧ (1:Int) < i12.length) <|
      rq (0 ≤ (0:Int) ∧ (0:Int) < i12.length) <|
      rq (0 ≤ (1:Int) ∧ (1:Int) < (i12.set (0:Int).toNat (i12.getD (1:Int).toNat 0)).length) <|
      some (r3_.2, ((i12.set (0:Int).toNat (i12.getD (1:Int).toNat 0)).set (1:Int).toNat (i12.getD (0:Int).toNat 0)))) (
      some (r3_.2, i12))) (
    some (i3, i12))

noncomputable def spec_l6Some__rsd_l1 (a2 : Int) (i3 : (List Int) × Int) : Int × (List Int) → Option ((Int × (List Int)) ⊕ (((List Int) × Int) × (List Int))) := fun (i10, i11) =>
  cond (decide (i10 < a2)) (
    rq (i11.length + [i10].length ≤ bound) <|
    rq (i64 (i10 + (1:Int))) <|
    some (.inl ((i10 + (1:Int)), (i11 ++ [i10])))) (
    up (spec_l6Some__rsd_j3 i3 i11))

noncomputable def spec_l6Some__rsd_l2 (a2 : Int) (i3 : (List Int) × Int) : Int × (List Int) → Option ((Int × (List Int)) ⊕ (((List Int) × Int) × (List Int))) := fun (i8, i9) =>
  cond (decide (i8 < a2)) (
    rq (i9.length + [i8].length ≤ bound) <|
    rq (i64 (i8 + (1:Int))) <|
    some (.inl ((i8 + (1:Int)), (i9 ++ [i8])))) (
    up (spec_l6Some__rsd_j3 i3 i9))

noncomputable def spec_l6Some__rsd_j2 (a2 : Int) (i3 : (List Int) × Int) : (List Int) → Option (((List Int) × Int) × (List Int)) := fun i7 =>
  cond (decide ((i7.length:Int) < a2)) (
    loop (spec_l6Some__rsd_l1 a2 i3) ((0:Int), ([] : List Int))) (
    cond ((i7.length:Int) == (0:Int)) (
      loop (spec_l6Some__rsd_l2 a2 i3) ((0:Int), ([] : List Int))) (
      spec_l6Some__rsd_j3 i3 i7))

noncomputable def spec_l6Some__rsd_l3 (a2 : Int) (o1 : List Int) (i3 : (List Int) × Int) : Int × (List Int) → Option ((Int × (List Int)) ⊕ (((List Int) × Int) × (List Int))) := fun (i5, i6) =>
  cond (decide ((i6.length:Int) < a2)) (
    cond (decide (i5 < (o1.length:Int))) (
      cond ((i6.length:Int) == (0:Int)) (
        rq (i6.length + [i5].length ≤ bound) <|
        rq (i64 (i5 + (1:Int))) <|
        some (.inl ((i5 + (1:Int)), (i6 ++ [i5])))) (
        rq (i64 ((i6.length:Int) - (1:Int))) <|
        rq (0 ≤ ((i6.length:Int) - (1:Int)) ∧ ((i6.length:Int) - (1:Int)) < i6.length) <|
        cond (decide ((i6.getD ((i6.length:Int) - (1:Int)).toNat 0) < i5)) (
          rq (i6.length + [i5].length ≤ bound) <|
          rq (i64 (i5 + (1:Int))) <|
          some (.inl ((i5 + (1:Int)), (i6 ++ [i5])))) (
          rq (i64 (i5 + (1:Int))) <|
          some (.inl ((i5 + (1:Int)), i6))))) (
      up (spec_l6Some__rsd_j2 a2 i3 i6))) (
    up (spec_l6Some__rsd_j2 a2 i3 i6))

noncomputable def spec_l6Some__rsd_j1 (a2 : Int) (o1 : List Int) : ((List Int) × Int) × (List Int) → Option (((List Int) × Int) × (List Int)) := fun (i3, i4) =>
  loop (spec_l6Some__rsd_l3 a2 o1 i3) ((0:Int), i4)

noncomputable def spec_l6Some__rsd_l4 (a2 : Int) (o1 : List Int) : Int × ((List Int) × Int) × (List Int) → Option ((Int × ((List Int) × Int) × (List Int)) ⊕ (((List Int) × Int) × (List Int))) := fun (i, i1, i2) =>
  cond (decide (i < (o1.length:Int))) (
    (spec_l17Rd_pick (3:Int) i1).bind fun r2_ =>
    cond (decide ((0:Int) < r2_.1)) (
      rq (i2.length + [i].length ≤ bound) <|
      rq (i64 (i + (1:Int))) <|
      some (.inl ((i + (1:Int)), r2_.2, (i2 ++ [i])))) (
      rq (i64 (i + (1:Int))) <|
      some (.inl ((i + (1:Int)), r2_.2, i2)))) (
    up (spec_l6Some__rsd_j1 a2 o1 (i1, i2)))

noncomputable def spec_l6Some__rsd (a2 : Int) (o0 : (List Int) × Int) (o1 : List Int) (o2 : List (Int × (List Int) × (List Int) × Int × (List (List Int)))) : Option (((List Int) × Int) × (List Int)) :=
  loop (spec_l6Some__rsd_l4 a2 o1) ((0:Int), o0, ([] : List Int))

/-- spec.l6Draw -/
noncomputable def spec_l6Draw__rsd_j1 (r1_ : Int × ((List Int) × Int)) (r2_ : ((List Int) × Int) × (List Int)) : ((List Int) × Int) × (List Int) → Option (((List Int) × Int) × Int × Int × (List Int) × (List Int) × (List (List Int))) := fun (i2, i_21) =>
  (spec_l17Rd_num [(1:Int), (2:Int), (0:Int), (-1:Int), (3:Int), (-3:Int), (4:Int)] i2).bind fun r6_ =>
  some (r6_.2, r1_.1, r6_.1, r2_.2, i_21, ([] : List (List Int)))

noncomputable def spec_l6Draw__rsd_l1 (r1_ : Int × ((List Int) × Int)) (r2_ : ((List Int) × Int) × (List Int)) : Int × ((List Int) × Int) × (List Int) → Option ((Int × ((List Int) × Int) × (List Int)) ⊕ (((List Int) × Int) × Int × Int × (List Int) × (List Int) × (List (List Int)))) := fun (i, i1, i_2) =>
  cond (decide (i < (r2_.2.length:Int))) (
    (spec_l17Rd_num [(1:Int), (-1:Int), (2:Int), (1:Int), (-2:Int), (3:Int)] i1).bind fun r5_ =>
    rq (i_2.length + [r5_.1].length ≤ bound) <|
    rq (i64 (i + (1:Int))) <|
    some (.inl ((i + (1:Int)), r5_.2, (i_2 ++ [r5_.1])))) (
    up (spec_l6Draw__rsd_j1 r1_ r2_ (i1, i_2)))

noncomputable def spec_l6Draw__rsd_j2 (i3 : Int) (i_4 : List (List Int)) : ((List Int) × Int) × (List Int) → Option ((Int × ((List Int) × Int) × (List (List Int))) ⊕ (((List Int) × Int) × Int × Int × (List Int) × (List Int) × (List (List Int)))) := fun (i13, i14) =>
  rq (i_4.length + [i14].length ≤ bound) <|
  rq (i64 (i3 - (1:Int))) <|
  some (.inl ((i3 - (1:Int)), i13, (i_4 ++ [i14])))

noncomputable def spec_l6Draw__rsd_l3 (r2_ : ((List Int) × Int) × (List Int)) (i3 : Int) (i_4 : List (List Int)) : Int × ((List Int) × Int) × (List Int) → Option ((Int × ((List Int) × Int) × (List Int)) ⊕ ((Int × ((List Int) × Int) × (List (List Int))) ⊕ (((List Int) × Int) × Int × Int × (List Int) × (List Int) × (List (List Int))))) := fun (i10, i11, i12) =>
  cond (decide (i10 < (r2_.2.length:Int))) (
    (spec_l17Rd_pick (4:Int) i11).bind fun r11_ =>
    rq (i12.length + [r11_.1].length ≤ bound) <|
    rq (i64 (i10 + (1:Int))) <|
    some (.inl ((i10 + (1:Int)), r11_.2, (i12 ++ [r11_.1])))) (
    up (spec_l6Draw__rsd_j2 i3 i_4 (i11, i12)))

noncomputable def spec_l6Draw__rsd_l2 (r1_ : Int × ((List Int) × Int)) (r2_ : ((List Int) × Int) × (List Int)) : Int × ((List Int) × Int) × (List (List Int)) → Option ((Int × ((List Int) × Int) × (List (List Int))) ⊕ (((List Int) × Int) × Int × Int × (List Int) × (List Int) × (List (List Int)))) := fun (i3, i9, i_4) =>
  cond (decide ((0:Int) < i3)) (
    loop (spec_l6Draw__rsd_l3 r2_ i3 i_4) ((0:Int), i9, ([] : List Int))) (
    some (.inr (i9, r1_.1, (0:Int), r2_.2, ([] : List Int), i_4)))

noncomputable def spec_l6Draw__rsd (o0 : (List Int) × Int) (o1 : List Int) (o2 : List (Int × (List Int) × (List Int) × Int × (List (List Int)))) : Option (((List Int) × Int) × Int × Int × (List Int) × (List Int) × (List (List Int))) :=
  (spec_l17Rd_num [(1:Int), (2:Int), (3:Int), (4:Int), (1:Int)] o0).bind fun r1_ =>
  (spec_l6Some__rsd (1:Int) r1_.2 o1 o2).bind fun r2_ =>
  cond (r1_.1 == (1:Int)) (
    loop (spec_l6Draw__rsd_l1 r1_ r2_) ((0:Int), r2_.1, ([] : List Int))) (
    cond (r1_.1 == (3:Int)) (
      (spec_l17Rd_num [(3:Int), (4:Int), (2:Int), (6:Int), (0:Int), (8:Int)] r2_.1).bind fun r7_ =>
      loop (spec_l6Draw__rsd_l2 r1_ r2_) (r7_.1, r7_.2, ([] : List (List Int)))) (
      cond (r1_.1 == (4:Int)) (
        (spec_l6Some__rsd (2:Int) r2_.1 o1 o2).bind fun r12_ =>
        rq (0 ≤ (2:Int) ∧ (2:Int) ≤ r12_.2.length) <|
        some (r12_.1, r1_.1, (0:Int), (r12_.2.take (2:Int).toNat), ([] : List Int), ([] : List (List Int)))) (
        some (r2_.1, r1_.1, (0:Int), r2_.2, ([] : List Int), ([] : List (List Int))))))

/-- spec.l6Model -/
noncomputable def spec_l6Model_l1 (i_03 : List Int) : Int × ((List Int) × Int) × (List (Int × (List Int) × (List Int) × Int × (List (List Int)))) → Option ((Int × ((List Int) × Int) × (List (Int × (List Int) × (List Int) × Int × (List (List Int))))) ⊕ (((List Int) × Int) × (List Int) × (List (Int × (List Int) × (List Int) × Int × (List (List Int)))))) := fun (i8, i9, i_1) =>
  cond (decide ((0:Int) < i8)) (
    (spec_l6Draw__rsd i9 i_03 i_1).bind fun r8_ =>
    rq (i_1.length + [(r8_.2.1, (r8_.2.2.2.1, (r8_.2.2.2.2.1, (r8_.2.2.1, r8_.2.2.2.2.2))))].length ≤ bound) <|
    rq (i64 (i8 - (1:Int))) <|
    some (.inl ((i8 - (1:Int)), r8_.1, (i_1 ++ [(r8_.2.1, (r8_.2.2.2.1, (r8_.2.2.2.2.1, (r8_.2.2.1, r8_.2.2.2.2.2))))])))) (
    some (.inr (i9, i_03, i_1)))

noncomputable def spec_l6Model_j2 (i2 : (List Int) × Int) : (List Int) → Option (((List Int) × Int) × (List Int) × (List (Int × (List Int) × (List Int) × Int × (List (List Int))))) := fun i_03 =>
  (spec_l17Rd_num [(2:Int), (3:Int), (1:Int), (4:Int), (0:Int)] i2).bind fun r5_ =>
  loop (spec_l6Model_l1 i_03) (r5_.1, r5_.2, ([] : List (Int × (List Int) × (List Int) × Int × (List (List Int)))))

noncomputable def spec_l6Model_l3 (i_02 : List Int) : Int × Int → Option ((Int × Int) ⊕ ((Int × (List Int)) ⊕ (((List Int) × Int) × (List Int) × (List (Int × (List Int) × (List Int) × Int × (List (List Int))))))) := fun (i6, i7) =>
  cond (decide (i7 < (i_02.length:Int))) (
    rq (0 ≤ i7 ∧ i7 < i_02.length) <|
    rq (i64 (i6 + (i_02.getD i7.toNat 0))) <|
    rq (i64 ((i6 + (i_02.getD i7.toNat 0)) + (1:Int))) <|
    rq (i64 (i7 + (1:Int))) <|
    some (.inl (((i6 + (i_02.getD i7.toNat 0)) + (1:Int)), (i7 + (1:Int))))) (
    cond (decide ((12:Int) < i6)) (
      rq (i64 ((i_02.length:Int) - (1:Int))) <|
      rq (0 ≤ ((i_02.length:Int) - (1:Int)) ∧ ((i_02.length:Int) - (1:Int)) ≤ i_02.length) <|
      some (.inr (.inl ((0:Int), (i_02.take ((i_02.length:Int) - (1:Int)).toNat))))) (
      some (.inr (.inl (i6, i_02)))))

noncomputable def spec_l6Model_l2 (i2 : (List Int) × Int) : Int × (List Int) → Option ((Int × (List Int)) ⊕ (((List Int) × Int) × (List Int) × (List (Int × (List Int) × (List Int) × Int × (List (List Int)))))) := fun (i3, i_02) =>
  cond (i3 == (0:Int)) (
    loop (spec_l6Model_l3 i_02) (i3, (0:Int))) (
    up (spec_l6Model_j2 i2 i_02))

noncomputable def spec_l6Model_j1 : ((List Int) × Int) × (List Int) → Option (((List Int) × Int) × (List Int) × (List (Int × (List Int) × (List Int) × Int × (List (List Int))))) := fun (i2, i_01) =>
  loop (spec_l6Model_l2 i2) ((0:Int), i_01)

noncomputable def spec_l6Model_l4 : Int × ((List Int) × Int) × (List Int) → Option ((Int × ((List Int) × Int) × (List Int)) ⊕ (((List Int) × Int) × (List Int) × (List (Int × (List Int) × (List Int) × Int × (List (List Int)))))) := fun (i, i1, i_0) =>
  cond (decide ((0:Int) < i)) (
    (spec_l17Rd_num [(2:Int), (1:Int), (3:Int), (2:Int), (0:Int)] i1).bind fun r4_ =>
    rq (i_0.length + [r4_.1].length ≤ bound) <|
    rq (i64 (i - (1:Int))) <|
    some (.inl ((i - (1:Int)), r4_.2, (i_0 ++ [r4_.1])))) (
    up (spec_l6Model_j1 (i1, i_0)))

noncomputable def spec_l6Model (o0 : (List Int) × Int) : Option (((List Int) × Int) × (List Int) × (List (Int × (List Int) × (List Int) × Int × (List (List Int))))) :=
  (spec_l17Rd_num [(3:Int), (2:Int), (4:Int), (3:Int)] o0).bind fun r1_ =>
  loop (spec_l6Model_l4) (r1_.1, r1_.2, ([] : List Int))

/-- spec.l6Copy -/
noncomputable def spec_l6Copy_j3 (m : (List Int) × (List (Int × (List Int) × (List Int) × Int × (List (List Int))))) (i : Int) (out_1 : List (Int × (List Int) × (List Int) × Int × (List (List Int)))) : (List (List Int)) → Option ((Int × (List (Int × (List Int) × (List Int) × Int × (List (List Int))))) ⊕ ((List Int) × (List (Int × (List Int) × (List Int) × Int × (List (List Int)))))) := fun y_43 =>
  rq (out_1.length + [((m.2.getD i.toNat (0, ([], ([], (0, []))))).1, ((([] : List Int) ++ (m.2.getD i.toNat (0, ([], ([], (0, []))))).2.1), ((([] : List Int) ++ (m.2.getD i.toNat (0, ([], ([], (0, []))))).2.2.1), ((m.2.getD i.toNat (0, ([], ([], (0, []))))).2.2.2.1, y_43))))].length ≤ bound) <|
  rq (i64 (i + (1:Int))) <|
  some (.inl ((i + (1:Int)), (out_1 ++ [((m.2.getD i.toNat (0, ([], ([], (0, []))))).1, ((([] : List Int) ++ (m.2.getD i.toNat (0, ([], ([], (0, []))))).2.1), ((([] : List Int) ++ (m.2.getD i.toNat (0, ([], ([], (0, []))))).2.2.1), ((m.2.getD i.toNat (0, ([], ([], (0, []))))).2.2.2.1, y_43))))])))

noncomputable def spec_l6Copy_l2 (m : (List Int) × (List (Int × (List Int) × (List Int) × Int × (List (List Int))))) (i : Int) (out_1 : List (Int × (List Int) × (List Int) × Int × (List (List Int)))) : Int × (List (List Int)) → Option ((Int × (List (List Int))) ⊕ ((Int × (List (Int × (List Int) × (List Int) × Int × (List (List Int))))) ⊕ ((List Int) × (List (Int × (List Int) × (List Int) × Int × (List (List Int))))))) := fun (k_1, y_42) =>
  cond (decide (k_1 < ((m.2.getD i.toNat (0, ([], ([], (0, []))))).2.2.2.2.length:Int))) (
    rq (0 ≤ k_1 ∧ k_1 < (m.2.getD i.toNat (0, ([], ([], (0, []))))).2.2.2.2.length) <|
    rq (([] : List Int).length + ((m.2.getD i.toNat (0, ([], ([], (0, []))))).2.2.2.2.getD k_1.toNat []).length ≤ bound) <|
    rq (y_42.length + [(([] : List Int) ++ ((m.2.getD i.toNat (0, ([], ([], (0, []))))).2.2.2.2.getD k_1.toNat []))].length ≤ bound) <|
    rq (i64 (k_1 + (1:Int))) <|
    some (.inl ((k_1 + (1:Int)), (y_42 ++ [(([] : List Int) ++ ((m.2.getD i.toNat (0, ([], ([], (0, []))))).2.2.2.2.getD k_1.toNat []))])))) (
    up (spec_l6Copy_j3 m i out_1 y_42))

noncomputable def spec_l6Copy_j2 (m : (List Int) × (List (Int × (List Int) × (List Int) × Int × (List (List Int))))) (i : Int) (out_1 : List (Int × (List Int) × (List Int) × Int × (List (List Int)))) : Unit → Option ((Int × (List (Int × (List Int) × (List Int) × Int × (List (List Int))))) ⊕ ((List Int) × (List (Int × (List Int) × (List Int) × Int × (List (List Int)))))) := fun _ =>
  loop (spec_l6Copy_l2 m i out_1) ((0:Int), ([] : List (List Int)))

noncomputable def spec_l6Copy_j1 (m : (List Int) × (List (Int × (List Int) × (List Int) × Int × (List (List Int))))) (i : Int) (out_1 : List (Int × (List Int) × (List Int) × Int × (List (List Int)))) : Unit → Option ((Int × (List (Int × (List Int) × (List Int) × Int × (List (List Int))))) ⊕ ((List Int) × (List (Int × (List Int) × (List Int) × Int × (List (List Int)))))) := fun _ =>
  rq (([] : List Int).length + (m.2.getD i.toNat (0, ([], ([], (0, []))))).2.1.length ≤ bound) <|
  rq (([] : List Int).length + (m.2.getD i.toNat (0, ([], ([], (0, []))))).2.2.1.length ≤ bound) <|
  spec_l6Copy_j2 m i out_1 ()

noncomputable def spec_l6Copy_l1 (m : (List Int) × (List (Int × (List Int) × (List Int) × Int × (List (List Int))))) : Int × (List (Int × (List Int) × (List Int) × Int × (List (List Int)))) → Option ((Int × (List (Int × (List Int) × (List Int) × Int × (List (List Int))))) ⊕ ((List Int) × (List (Int × (List Int) × (List Int) × Int × (List (List Int)))))) := fun (i, out_1) =>
  cond (decide (i < (m.2.length:Int))) (
    rq (0 ≤ i ∧ i < m.2.length) <|
    spec_l6Copy_j1 m i out_1 ()) (
    some (.inr ((([] : List Int) ++ m.1), out_1)))

noncomputable def spec_l6Copy (m : (List Int) × (List (Int × (List Int) × (List Int) × Int × (List (List Int))))) : Option ((List Int) × (List (Int × (List Int) × (List Int) × Int × (List (List Int))))) :=
  rq (([] : List Int).length + m.1.length ≤ bound) <|
  loop (spec_l6Copy_l1 m) ((0:Int), ([] : List (Int × (List Int) × (List Int) × Int × (List (List Int)))))

/-- spec.l6Mutate -/
noncomputable def spec_l6Mutate_l1 (r1_ : (List Int) × (List (Int × (List Int) × (List Int) × Int × (List (List Int))))) (r2_ : Int × ((List Int) × Int)) : (List Int) → Option ((List Int) ⊕ (((List Int) × Int) × (List Int) × (List (Int × (List Int) × (List Int) × Int × (List (List Int)))))) := fun i_0 =>
  cond (decide ((i_0.length:Int) ≤ (5:Int))) (
    rq (i_0.length + [(0:Int)].length ≤ bound) <|
    some (.inl (i_0 ++ [(0:Int)]))) (
    some (.inr (r2_.2, i_0, r1_.2)))

noncomputable def spec_l6Mutate (a1 : (List Int) × (List (Int × (List Int) × (List Int) × Int × (List (List Int))))) (o0 : (List Int) × Int) : Option (((List Int) × Int) × (List Int) × (List (Int × (List Int) × (List Int) × Int × (List (List Int))))) :=
  (spec_l6Copy a1).bind fun r1_ =>
  (spec_l17Rd_pick (50:Int) o0).bind fun r2_ =>
  cond (r2_.1 == (0:Int)) (
    cond (decide ((0:Int) < (r1_.1.length:Int))) (
      (spec_l17Rd_num [(-1:Int), (4:Int), (3:Int), (9223372036854775807:Int)] r2_.2).bind fun r4_ =>
      rq (0 ≤ (0:Int) ∧ (0:Int) < r1_.1.length) <|
      some (r4_.2, (r1_.1.set (0:Int).toNat r4_.1), r1_.2)) (
      some (r2_.2, r1_.1, r1_.2))) (
    cond (r2_.1 == (1:Int)) (
      loop (spec_l6Mutate_l1 r1_ r2_) r1_.1) (
      cond (r2_.1 == (2:Int)) (
        cond (decide ((0:Int) < (r1_.2.length:Int))) (
          (spec_l17Rd_num [(0:Int), (5:Int), (1:Int), (2:Int), (3:Int)] r2_.2).bind fun r6_ =>
          rq (0 ≤ (0:Int) ∧ (0:Int) < r1_.2.length) <|
          some (r6_.2, r1_.1, (r1_.2.set (0:Int).toNat (r6_.1, (r1_.2.getD (0:Int).toNat (0, ([], ([], (0, []))))).2)))) (
          some (r2_.2, r1_.1, r1_.2))) (
        cond (r2_.1 == (3:Int)) (
          cond (decide ((0:Int) < (r1_.2.length:Int))) (
            rq (i64 ((r1_.2.length:Int) - (1:Int))) <|
            rq (0 ≤ ((r1_.2.length:Int) - (1:Int)) ∧ ((r1_.2.length:Int) - (1:Int)) < r1_.2.length) <|
            cond (decide ((0:Int) < ((r1_.2.getD ((r1_.2.length:Int) - (1:Int)).toNat (0, ([], ([], (0, []))))).2.1.length:Int))) (
              rq (i64 ((r1_.2.length:Int) - (1:Int))) <|
              rq (0 ≤ ((r1_.2.length:Int) - (1:Int)) ∧ ((r1_.2.length:Int) - (1:Int)) < r1_.2.length) <|
              (spec_l17Rd_num [(-1:Int), (5:Int), (1:Int), (0:Int)] r2_.2).bind fun r8_ =>
              rq (0 ≤ (0:Int) ∧ (0:Int) < ((r1_.2.set ((r1_.2.length:Int) - (1:Int)).toNat (r1_.2.getD ((r1_.2.length:Int) - (1:Int)).toNat (0, ([], ([], (0, [])))))).getD ((r1_.2.length:Int) - (1:Int)).toNat (0, ([], ([], (0, []))))).2.1.length) <|
              some (r8_.2, r1_.1, ((r1_.2.set ((r1_.2.length:Int) - (1:Int)).toNat (r1_.2.getD ((r1_.2.length:Int) - (1:Int)).toNat (0, ([], ([], (0, [])))))).set ((r1_.2.length:Int) - (1:Int)).toNat (((r1_.2.set ((r1_.2.length:Int) - (1:Int)).toNat (r1_.2.getD ((r1_.2.length:Int) - (1:Int)).toNat (0, ([], ([], (0, [])))))).getD ((r1_.2.length:Int) - (1:Int)).toNat (0, ([], ([], (0, []))))).1, ((((r1_.2.set ((r1_.2.length:Int) - (1:Int)).toNat (r1_.2.getD ((r1_.2.length:Int) - (1:Int)).toNat (0, ([], ([], (0, [])))))).getD ((r1_.2.length:Int) - (1:Int)).toNat (0, ([], ([], (0, []))))).2.1.set (0:Int).toNat r8_.1), ((r1_.2.set ((r1_.2.length:Int) - (1:Int)).toNat (r1_.2.getD ((r1_.2.length:Int) - (1:Int)).toNat (0, ([], ([], (0, [])))))).getD ((r1_.2.length:Int) - (1:Int)).toNat (0, ([], ([], (0, []))))).2.2))))) (
              some (r2_.2, r1_.1, (r1_.2.set ((r1_.2.length:Int) - (1:Int)).toNat (r1_.2.getD ((r1_.2.length:Int) - (1:Int)).toNat (0, ([], ([], (0, []))))))))) (
            some (r2_.2, r1_.1, r1_.2))) (
          cond (r2_.1 == (4:Int)) (
            cond (decide ((0:Int) < (r1_.2.length:Int))) (
              (spec_l17Rd_num [(1001:Int), (-1001:Int), (1000:Int)] r2_.2).bind fun r10_ =>
              rq (0 ≤ (0:Int) ∧ (0:Int) < r1_.2.length) <|
              some (r10_.2, r1_.1, (r1_.2.set (0:Int).toNat ((r1_.2.getD (0:Int).toNat (0, ([], ([], (0, []))))).1, ((r1_.2.getD (0:Int).toNat (0, ([], ([], (0, []))))).2.1, ((r1_.2.getD (0:Int).toNat (0, ([], ([], (0, []))))).2.2.1, (r10_.1, (r1_.2.getD (0:Int).toNat (0, ([], ([], (0, []))))).2.2.2.2))))))) (
              some (r2_.2, r1_.1, r1_.2))) (
            cond (r2_.1 == (5:Int)) (
              some (r2_.2, ([] : List Int), ([] : List (Int × (List Int) × (List Int) × Int × (List (List Int)))))) (
              some (r2_.2, r1_.1, r1_.2)))))))

/-- spec.l6Vars -/
noncomputable def spec_l6Vars_l2 (list_ : List Int) (i : Int) : Int → Option (Int ⊕ (Int ⊕ Bool)) := fun k_ =>
  cond (decide (k_ < i)) (
    rq (0 ≤ k_ ∧ k_ < list_.length) <|
    rq (0 ≤ i ∧ i < list_.length) <|
    cond ((list_.getD k_.toNat 0) == (list_.getD i.toNat 0)) (
      some (.inr (.inr false))) (
      rq (i64 (k_ + (1:Int))) <|
      some (.inl (k_ + (1:Int))))) (
    rq (i64 (i + (1:Int))) <|
    some (.inr (.inl (i + (1:Int)))))

noncomputable def spec_l6Vars_l1 (m : (List Int) × (List (Int × (List Int) × (List Int) × Int × (List (List Int))))) (list_ : List Int) : Int → Option (Int ⊕ Bool) := fun i =>
  cond (decide (i < (list_.length:Int))) (
    rq (0 ≤ i ∧ i < list_.length) <|
    cond (decide ((list_.getD i.toNat 0) < (0:Int))) (
      some (.inr false)) (
      rq (0 ≤ i ∧ i < list_.length) <|
      cond (decide ((m.1.length:Int) ≤ (list_.getD i.toNat 0))) (
        some (.inr false)) (
        loop (spec_l6Vars_l2 list_ i) (0:Int)))) (
    some (.inr (decide ((1:Int) ≤ (list_.length:Int)))))

noncomputable def spec_l6Vars (m : (List Int) × (List (Int × (List Int) × (List Int) × Int × (List (List Int))))) (list_ : List Int) : Option Bool :=
  loop (spec_l6Vars_l1 m list_) (0:Int)

/-- spec.l6Linear -/
noncomputable def spec_l6Linear_l1 (r_ : Int × (List Int) × (List Int) × Int × (List (List Int))) : Int → Option (Int ⊕ Bool) := fun i =>
  cond (decide (i < (r_.2.2.1.length:Int))) (
    rq (0 ≤ i ∧ i < r_.2.2.1.length) <|
    cond (decide ((r_.2.2.1.getD i.toNat 0) < (-9:Int))) (
      some (.inr false)) (
      rq (0 ≤ i ∧ i < r_.2.2.1.length) <|
      cond (decide ((9:Int) < (r_.2.2.1.getD i.toNat 0))) (
        some (.inr false)) (
        rq (0 ≤ i ∧ i < r_.2.2.1.length) <|
        cond ((r_.2.2.1.getD i.toNat 0) == (0:Int)) (
          some (.inr false)) (
          rq (i64 (i + (1:Int))) <|
          some (.inl (i + (1:Int))))))) (
    cond ((r_.2.2.1.length:Int) == (r_.2.1.length:Int)) (
      cond (decide ((-1000:Int) ≤ r_.2.2.2.1)) (
        some (.inr (decide (r_.2.2.2.1 ≤ (1000:Int))))) (
        some (.inr false))) (
      some (.inr false)))

noncomputable def spec_l6Linear (r_ : Int × (List Int) × (List Int) × Int × (List (List Int))) : Option Bool :=
  loop (spec_l6Linear_l1 r_) (0:Int)

/-- spec.l6Table -/
noncomputable def spec_l6Table_l2 (r_ : Int × (List Int) × (List Int) × Int × (List (List Int))) (i : Int) : Int → Option (Int ⊕ (Int ⊕ Bool)) := fun k_ =>
  rq (0 ≤ i ∧ i < r_.2.2.2.2.length) <|
  cond (decide (k_ < ((r_.2.2.2.2.getD i.toNat []).length:Int))) (
    rq (0 ≤ i ∧ i < r_.2.2.2.2.length) <|
    rq (0 ≤ k_ ∧ k_ < (r_.2.2.2.2.getD i.toNat []).length) <|
    cond (decide (((r_.2.2.2.2.getD i.toNat []).getD k_.toNat 0) < (0:Int))) (
      some (.inr (.inr false))) (
      rq (0 ≤ i ∧ i < r_.2.2.2.2.length) <|
      rq (0 ≤ k_ ∧ k_ < (r_.2.2.2.2.getD i.toNat []).length) <|
      cond (decide ((3:Int) < ((r_.2.2.2.2.getD i.toNat []).getD k_.toNat 0))) (
        some (.inr (.inr false))) (
        rq (i64 (k_ + (1:Int))) <|
        some (.inl (k_ + (1:Int)))))) (
    rq (i64 (i + (1:Int))) <|
    some (.inr (.inl (i + (1:Int)))))

noncomputable def spec_l6Table_l1 (r_ : Int × (List Int) × (List Int) × Int × (List (List Int))) : Int → Option (Int ⊕ Bool) := fun i =>
  cond (decide (i < (r_.2.2.2.2.length:Int))) (
    rq (0 ≤ i ∧ i < r_.2.2.2.2.length) <|
    cond (((r_.2.2.2.2.getD i.toNat []).length:Int) != (r_.2.1.length:Int)) (
      some (.inr false)) (
      loop (spec_l6Table_l2 r_ i) (0:Int))) (
    some (.inr (decide ((r_.2.2.2.2.length:Int) ≤ (8:Int)))))

noncomputable def spec_l6Table (r_ : Int × (List Int) × (List Int) × Int × (List (List Int))) : Option Bool :=
  loop (spec_l6Table_l1 r_) (0:Int)

/-- spec.l6Rule -/
noncomputable def spec_l6Rule_j1 (r_ : Int × (List Int) × (List Int) × Int × (List (List Int))) : Unit → Option Bool := fun _ =>
  cond (r_.1 == (1:Int)) (
    (spec_l6Linear r_).bind fun r2_ =>
    some r2_) (
    cond (r_.1 == (2:Int)) (
      some true) (
      cond (r_.1 == (3:Int)) (
        (spec_l6Table r_).bind fun r3_ =>
        some r3_) (
        cond (r_.1 == (4:Int)) (
          some ((r_.2.1.length:Int) == (2:Int))) (
          some false))))

noncomputable def spec_l6Rule (m : (List Int) × (List (Int × (List Int) × (List Int) × Int × (List (List Int))))) (r_ : Int × (List Int) × (List Int) × Int × (List (List Int))) : Option Bool :=
  (spec_l6Vars m r_.2.1).bind fun r1_ =>
  cond (!r1_) (
    some false) (
    cond (r_.1 != (1:Int)) (
      cond ((r_.2.2.1.length:Int) != (0:Int)) (
        some false) (
        cond (r_.2.2.2.1 != (0:Int)) (
          some false) (
          cond (r_.1 != (3:Int)) (
            cond ((r_.2.2.2.2.length:Int) != (0:Int)) (
              some false) (
              spec_l6Rule_j1 r_ ())) (
            spec_l6Rule_j1 r_ ())))) (
      cond (r_.1 != (3:Int)) (
        cond ((r_.2.2.2.2.length:Int) != (0:Int)) (
          some false) (
          spec_l6Rule_j1 r_ ())) (
        spec_l6Rule_j1 r_ ())))

/-- spec.ModelValid -/
noncomputable def spec_ModelValid_l1 (a0 : (List Int) × (List (Int × (List Int) × (List Int) × Int × (List (List Int))))) : Int → Option (Int ⊕ Bool) := fun i3 =>
  cond (decide (i3 < (a0.2.length:Int))) (
    rq (0 ≤ i3 ∧ i3 < a0.2.length) <|
    (spec_l6Rule a0 (a0.2.getD i3.toNat (0, ([], ([], (0, [])))))).bind fun r2_ =>
    cond (!r2_) (
      some (.inr false)) (
      rq (i64 (i3 + (1:Int))) <|
      some (.inl (i3 + (1:Int))))) (
    some (.inr true))

noncomputable def spec_ModelValid_j1 (a0 : (List Int) × (List (Int × (List Int) × (List Int) × Int × (List (List Int))))) : Int → Option Bool := fun i2 =>
  cond (decide ((a0.1.length:Int) < (1:Int))) (
    some false) (
    cond (decide ((5:Int) < (a0.1.length:Int))) (
      some false) (
      cond (decide ((12:Int) < i2)) (
        some false) (
        cond (decide ((8:Int) < (a0.2.length:Int))) (
          some false) (
          loop (spec_ModelValid_l1 a0) (0:Int)))))

noncomputable def spec_ModelValid_l2 (a0 : (List Int) × (List (Int × (List Int) × (List Int) × Int × (List (List Int))))) : Int × Int → Option ((Int × Int) ⊕ Bool) := fun (i, i1) =>
  cond (decide (i1 < (a0.1.length:Int))) (
    cond (decide (i1 < (5:Int))) (
      rq (0 ≤ i1 ∧ i1 < a0.1.length) <|
      cond (decide ((a0.1.getD i1.toNat 0) < (0:Int))) (
        some (.inr false)) (
        rq (0 ≤ i1 ∧ i1 < a0.1.length) <|
        cond (decide ((3:Int) < (a0.1.getD i1.toNat 0))) (
          some (.inr false)) (
          rq (0 ≤ i1 ∧ i1 < a0.1.length) <|
          rq (i64 (i + (a0.1.getD i1.toNat 0))) <|
          rq (i64 ((i + (a0.1.getD i1.toNat 0)) + (1:Int))) <|
          rq (i64 (i1 + (1:Int))) <|
          some (.inl (((i + (a0.1.getD i1.toNat 0)) + (1:Int)), (i1 + (1:Int))))))) (
      up (spec_ModelValid_j1 a0 i))) (
    up (spec_ModelValid_j1 a0 i))

noncomputable def spec_ModelValid (a0 : (List Int) × (List (Int × (List Int) × (List Int) × Int × (List (List Int))))) : Option Bool :=
  loop (spec_ModelValid_l2 a0) ((0:Int), (0:Int))

/-- spec.l8Make -/
noncomputable def spec_l8Make_j1 (i : Int) (out : List (List Bool)) : (List Bool) → Option ((Int × (List (List Bool))) ⊕ (List (List Bool))) := fun row3 =>
  rq (out.length + [row3].length ≤ bound) <|
  rq (i64 (i + (1:Int))) <|
  some (.inl ((i + (1:Int)), (out ++ [row3])))

noncomputable def spec_l8Make_l2 (m : (List Int) × (List (Int × (List Int) × (List Int) × Int × (List (List Int))))) (b : Bool) (i : Int) (out : List (List Bool)) : Int × (List Bool) → Option ((Int × (List Bool)) ⊕ ((Int × (List (List Bool))) ⊕ (List (List Bool)))) := fun (k_1, row2) =>
  rq (0 ≤ i ∧ i < m.1.length) <|
  cond (decide (k_1 ≤ (m.1.getD i.toNat 0))) (
    rq (row2.length + [b].length ≤ bound) <|
    rq (i64 (k_1 + (1:Int))) <|
    some (.inl ((k_1 + (1:Int)), (row2 ++ [b])))) (
    up (spec_l8Make_j1 i out row2))

noncomputable def spec_l8Make_l1 (m : (List Int) × (List (Int × (List Int) × (List Int) × Int × (List (List Int))))) (b : Bool) : Int × (List (List Bool)) → Option ((Int × (List (List Bool))) ⊕ (List (List Bool))) := fun (i, out) =>
  cond (decide (i < (m.1.length:Int))) (
    loop (spec_l8Make_l2 m b i out) ((0:Int), ([] : List Bool))) (
    some (.inr out))

noncomputable def spec_l8Make (m : (List Int) × (List (Int × (List Int) × (List Int) × Int × (List (List Int))))) (b : Bool) : Option (List (List Bool)) :=
  loop (spec_l8Make_l1 m b) ((0:Int), ([] : List (List Bool)))

/-- spec.FullDomains -/
noncomputable def spec_FullDomains (m : (List Int) × (List (Int × (List Int) × (List Int) × Int × (List (List Int))))) : Option (List (List Bool)) :=
  (spec_ModelValid m).bind fun r1_ =>
  cond (!r1_) (
    some ([] : List (List Bool))) (
    (spec_l8Make m true).bind fun r2_ =>
    some r2_)

/-- spec.l8Draw -/
noncomputable def spec_l8Draw__rsd_j2 : ((List Int) × Int) × (List (List Bool)) → Option ((List (List Bool)) × ((List Int) × Int)) := fun (r_5, d4) =>
  cond (decide ((0:Int) < (d4.length:Int))) (
    (spec_l17Rd_pick (30:Int) r_5).bind fun r8_ =>
    cond (r8_.1 == (0:Int)) (
      rq (i64 ((d4.length:Int) - (1:Int))) <|
      rq (0 ≤ ((d4.length:Int) - (1:Int)) ∧ ((d4.length:Int) - (1:Int)) ≤ d4.length) <|
      some ((d4.take ((d4.length:Int) - (1:Int)).toNat), r8_.2)) (
      some (d4, r8_.2))) (
    some (d4, r_5))

noncomputable def spec_l8Draw__rsd_j1 : ((List Int) × Int) × (List (List Bool)) → Option ((List (List Bool)) × ((List Int) × Int)) := fun (r_4, d3) =>
  cond (decide ((0:Int) < (d3.length:Int))) (
    (spec_l17Rd_pick (30:Int) r_4).bind fun r7_ =>
    cond (r7_.1 == (0:Int)) (
      rq (0 ≤ (0:Int) ∧ (0:Int) < d3.length) <|
      rq ((d3.getD (0:Int).toNat []).length + [true].length ≤ bound) <|
      rq (0 ≤ (0:Int) ∧ (0:Int) < d3.length) <|
      spec_l8Draw__rsd_j2 (r7_.2, (d3.set (0:Int).toNat ((d3.getD (0:Int).toNat []) ++ [true])))) (
      spec_l8Draw__rsd_j2 (r7_.2, d3))) (
    spec_l8Draw__rsd_j2 (r_4, d3))

noncomputable def spec_l8Draw__rsd_l2 (i : Int) : Int × ((List Int) × Int) × (List (List Bool)) → Option ((Int × ((List Int) × Int) × (List (List Bool))) ⊕ ((Int × ((List Int) × Int) × (List (List Bool))) ⊕ ((List (List Bool)) × ((List Int) × Int)))) := fun (k_1, r_3, d2) =>
  rq (0 ≤ i ∧ i < d2.length) <|
  cond (decide (k_1 < ((d2.getD i.toNat []).length:Int))) (
    rq (0 ≤ i ∧ i < d2.length) <|
    (spec_l17Rd_pick (5:Int) r_3).bind fun r6_ =>
    rq (0 ≤ k_1 ∧ k_1 < ((d2.set i.toNat (d2.getD i.toNat [])).getD i.toNat []).length) <|
    rq (i64 (k_1 + (1:Int))) <|
    some (.inl ((k_1 + (1:Int)), r6_.2, ((d2.set i.toNat (d2.getD i.toNat [])).set i.toNat (((d2.set i.toNat (d2.getD i.toNat [])).getD i.toNat []).set k_1.toNat (decide ((0:Int) < r6_.1))))))) (
    rq (i64 (i + (1:Int))) <|
    some (.inr (.inl ((i + (1:Int)), r_3, (d2.set i.toNat (d2.getD i.toNat []))))))

noncomputable def spec_l8Draw__rsd_l1 : Int × ((List Int) × Int) × (List (List Bool)) → Option ((Int × ((List Int) × Int) × (List (List Bool))) ⊕ ((List (List Bool)) × ((List Int) × Int))) := fun (i, r_2, d1) =>
  cond (decide (i < (d1.length:Int))) (
    loop (spec_l8Draw__rsd_l2 i) ((0:Int), r_2, d1)) (
    up (spec_l8Draw__rsd_j1 (r_2, d1)))

noncomputable def spec_l8Draw__rsd (r_ : (List Int) × Int) (o1 : List Int) (o2 : List (Int × (List Int) × (List Int) × Int × (List (List Int)))) : Option ((List (List Bool)) × ((List Int) × Int)) :=
  (spec_FullDomains (o1, o2)).bind fun r1_ =>
  loop (spec_l8Draw__rsd_l1) ((0:Int), r_, r1_)

/-- spec.l6DrawCells -/
noncomputable def spec_l6DrawCells__rsd_j1 : ((List Int) × Int) × (List Int) → Option (((List Int) × Int) × (List Int)) := fun (r_2, out1) =>
  (spec_l17Rd_pick (40:Int) r_2).bind fun r3_ =>
  cond (r3_.1 == (0:Int)) (
    rq (out1.length + [(0:Int)].length ≤ bound) <|
    some (r3_.2, (out1 ++ [(0:Int)]))) (
    cond (r3_.1 == (1:Int)) (
      cond (decide ((0:Int) < (out1.length:Int))) (
        (spec_l17Rd_num [(-1:Int), (4:Int), (9223372036854775807:Int)] r3_.2).bind fun r4_ =>
        rq (0 ≤ (0:Int) ∧ (0:Int) < out1.length) <|
        some (r4_.2, (out1.set (0:Int).toNat r4_.1))) (
        some (r3_.2, out1))) (
      some (r3_.2, out1)))

noncomputable def spec_l6DrawCells__rsd_j2 (i : Int) (r_1 : (List Int) × Int) (out : List Int) : Int → Option ((Int × ((List Int) × Int) × (List Int)) ⊕ (((List Int) × Int) × (List Int))) := fun n1 =>
  (spec_l17Rd_pick n1 r_1).bind fun r2_ =>
  rq (out.length + [r2_.1].length ≤ bound) <|
  rq (i64 (i + (1:Int))) <|
  some (.inl ((i + (1:Int)), r2_.2, (out ++ [r2_.1])))

noncomputable def spec_l6DrawCells__rsd_l1 (o1 : List Int) : Int × ((List Int) × Int) × (List Int) → Option ((Int × ((List Int) × Int) × (List Int)) ⊕ (((List Int) × Int) × (List Int))) := fun (i, r_1, out) =>
  cond (decide (i < (o1.length:Int))) (
    rq (0 ≤ i ∧ i < o1.length) <|
    cond (decide ((w64 ((o1.getD i.toNat 0) + (1:Int))) < (1:Int))) (
      spec_l6DrawCells__rsd_j2 i r_1 out (1:Int)) (
      cond (decide ((4:Int) < (w64 ((o1.getD i.toNat 0) + (1:Int))))) (
        spec_l6DrawCells__rsd_j2 i r_1 out (1:Int)) (
        spec_l6DrawCells__rsd_j2 i r_1 out (w64 ((o1.getD i.toNat 0) + (1:Int)))))) (
    up (spec_l6DrawCells__rsd_j1 (r_1, out)))

noncomputable def spec_l6DrawCells__rsd (r_ : (List Int) × Int) (o1 : List Int) (o2 : List (Int × (List Int) × (List Int) × Int × (List (List Int)))) : Option (((List Int) × Int) × (List Int)) :=
  loop (spec_l6DrawCells__rsd_l1 o1) ((0:Int), r_, ([] : List Int))

/-- spec.DrawCellsIn -/
noncomputable def spec_DrawCellsIn (code : List Int) : Option ((List (List Bool)) × (List Int) × (List Int) × (List (Int × (List Int) × (List Int) × Int × (List (List Int))))) :=
  (spec_l17Open code).bind fun r1_ =>
  (spec_l6Model r1_).bind fun r2_ =>
  (spec_l6Mutate r2_.2 r2_.1).bind fun r3_ =>
  (spec_l8Draw__rsd r3_.1 r3_.2.1 r3_.2.2).bind fun r4_ =>
  (spec_l6DrawCells__rsd r4_.2 r3_.2.1 r3_.2.2).bind fun r6_ =>
  some (r4_.1, r6_.2, r3_.2.1, r3_.2.2)

/-- impl.within -/
noncomputable def impl_within (n : Int) (low : Int) (high : Int) : Option Bool :=
  cond (decide (low ≤ n)) (
    some (decide (n ≤ high))) (
    some false)

/-- slices.Index[[]int,int] -/
noncomputable def slices_Index_int_l1 (s_ : List Int) (v : Int) : Int → Option (Int ⊕ Int) := fun i =>
  cond (decide (i < (s_.length:Int))) (
    rq (0 ≤ i ∧ i < s_.length) <|
    cond (v == (s_.getD i.toNat 0)) (
      some (.inr i)) (
      rq (i64 (i + (1:Int))) <|
      some (.inl (i + (1:Int))))) (
    some (.inr (-1:Int)))

noncomputable def slices_Index_int (s_ : List Int) (v : Int) : Option Int :=
  loop (slices_Index_int_l1 s_ v) (0:Int)

/-- slices.Contains[[]int,int] -/
noncomputable def slices_Contains_int (s_ : List Int) (v : Int) : Option Bool :=
  (slices_Index_int s_ v).bind fun r1_ =>
  some (decide ((0:Int) ≤ r1_))

/-- impl.ruleValid$1 -/
noncomputable def impl_ruleValid_1 (n : Int) : Option Bool :=
  cond (n == (0:Int)) (
    some true) (
    (impl_within n (-9:Int) (9:Int)).bind fun r1_ =>
    some (!r1_))

/-- slices.IndexFunc[[]int,int] -/
noncomputable def slices_IndexFunc_int__impl_ruleValid_1_l1 (s_ : List Int) : Int → Option (Int ⊕ Int) := fun i =>
  cond (decide (i < (s_.length:Int))) (
    rq (0 ≤ i ∧ i < s_.length) <|
    (impl_ruleValid_1 (s_.getD i.toNat 0)).bind fun r1_ =>
    cond r1_ (
      some (.inr i)) (
      rq (i64 (i + (1:Int))) <|
      some (.inl (i + (1:Int))))) (
    some (.inr (-1:Int)))

noncomputable def slices_IndexFunc_int__impl_ruleValid_1 (s_ : List Int) : Option Int :=
  loop (slices_IndexFunc_int__impl_ruleValid_1_l1 s_) (0:Int)

/-- slices.ContainsFunc[[]int,int] -/
noncomputable def slices_ContainsFunc_int__impl_ruleValid_1 (s_ : List Int) : Option Bool :=
  (slices_IndexFunc_int__impl_ruleValid_1 s_).bind fun r1_ =>
  some (decide ((0:Int) ≤ r1_))

/-- impl.ruleValid$2$1 -/
noncomputable def impl_ruleValid_2_1 (n : Int) : Option Bool :=
  (impl_within n (0:Int) (3:Int)).bind fun r1_ =>
  some (!r1_)

/-- slices.IndexFunc[[]int,int] -/
noncomputable def slices_IndexFunc_int__impl_ruleValid_2_1_l1 (s_ : List Int) : Int → Option (Int ⊕ Int) := fun i =>
  cond (decide (i < (s_.length:Int))) (
    rq (0 ≤ i ∧ i < s_.length) <|
    (impl_ruleValid_2_1 (s_.getD i.toNat 0)).bind fun r1_ =>
    cond r1_ (
      some (.inr i)) (
      rq (i64 (i + (1:Int))) <|
      some (.inl (i + (1:Int))))) (
    some (.inr (-1:Int)))

noncomputable def slices_IndexFunc_int__impl_ruleValid_2_1 (s_ : List Int) : Option Int :=
  loop (slices_IndexFunc_int__impl_ruleValid_2_1_l1 s_) (0:Int)

/-- slices.ContainsFunc[[]int,int] -/
noncomputable def slices_ContainsFunc_int__impl_ruleValid_2_1 (s_ : List Int) : Option Bool :=
  (slices_IndexFunc_int__impl_ruleValid_2_1 s_).bind fun r1_ =>
  some (decide ((0:Int) ≤ r1_))

/-- impl.ruleValid$2 -/
noncomputable def impl_ruleValid_2 (row : List Int) (o0 : Int × (List Int) × (List Int) × Int × (List (List Int))) : Option Bool :=
  cond ((row.length:Int) != (o0.2.1.length:Int)) (
    some true) (
    (slices_ContainsFunc_int__impl_ruleValid_2_1 row).bind fun r1_ =>
    some r1_)

/-- slices.IndexFunc[[][]int,[]int] -/
noncomputable def slices_IndexFunc_s_int__impl_ruleValid_2_l1 (s_ : List (List Int)) (o0 : Int × (List Int) × (List Int) × Int × (List (List Int))) : Int → Option (Int ⊕ Int) := fun i =>
  cond (decide (i < (s_.length:Int))) (
    rq (0 ≤ i ∧ i < s_.length) <|
    (impl_ruleValid_2 (s_.getD i.toNat []) o0).bind fun r1_ =>
    cond r1_ (
      some (.inr i)) (
      rq (i64 (i + (1:Int))) <|
      some (.inl (i + (1:Int))))) (
    some (.inr (-1:Int)))

noncomputable def slices_IndexFunc_s_int__impl_ruleValid_2 (s_ : List (List Int)) (o0 : Int × (List Int) × (List Int) × Int × (List (List Int))) : Option Int :=
  loop (slices_IndexFunc_s_int__impl_ruleValid_2_l1 s_ o0) (0:Int)

/-- slices.ContainsFunc[[][]int,[]int] -/
noncomputable def slices_ContainsFunc_s_int__impl_ruleValid_2 (s_ : List (List Int)) (o0 : Int × (List Int) × (List Int) × Int × (List (List Int))) : Option Bool :=
  (slices_IndexFunc_s_int__impl_ruleValid_2 s_ o0).bind fun r1_ =>
  some (decide ((0:Int) ≤ r1_))

/-- impl.ruleValid -/
noncomputable def impl_ruleValid_j1 (a0 : Int × (List Int) × (List Int) × Int × (List (List Int))) : Unit → Option (Int ⊕ Bool) := fun _ =>
  cond (a0.1 == (1:Int)) (
    cond ((a0.2.2.1.length:Int) == (a0.2.1.length:Int)) (
      (impl_within a0.2.2.2.1 (-1000:Int) (1000:Int)).bind fun r3_ =>
      cond r3_ (
        (slices_ContainsFunc_int__impl_ruleValid_1 a0.2.2.1).bind fun r4_ =>
        some (.inr (!r4_))) (
        some (.inr false))) (
      some (.inr false))) (
    cond (a0.1 == (3:Int)) (
      cond (decide ((a0.2.2.2.2.length:Int) ≤ (8:Int))) (
        (slices_ContainsFunc_s_int__impl_ruleValid_2 a0.2.2.2.2 a0).bind fun r5_ =>
        some (.inr (!r5_))) (
        some (.inr false))) (
      cond (a0.1 == (4:Int)) (
        some (.inr ((a0.2.1.length:Int) == (2:Int)))) (
        some (.inr (a0.1 == (2:Int))))))

noncomputable def impl_ruleValid_l1 (a0 : Int × (List Int) × (List Int) × Int × (List (List Int))) (a1 : Int) : Int → Option (Int ⊕ Bool) := fun i =>
  cond (decide (i < (a0.2.1.length:Int))) (
    rq (0 ≤ i ∧ i < a0.2.1.length) <|
    rq (i64 (a1 - (1:Int))) <|
    (impl_within (a0.2.1.getD i.toNat 0) (0:Int) (a1 - (1:Int))).bind fun r1_ =>
    cond (!r1_) (
      some (.inr false)) (
      rq (0 ≤ i ∧ i ≤ a0.2.1.length) <|
      (slices_Contains_int (a0.2.1.take i.toNat) (a0.2.1.getD i.toNat 0)).bind fun r2_ =>
      cond r2_ (
        some (.inr false)) (
        rq (i64 (i + (1:Int))) <|
        some (.inl (i + (1:Int)))))) (
    cond ((a0.2.1.length:Int) == (0:Int)) (
      some (.inr false)) (
      cond (a0.1 != (1:Int)) (
        cond (decide ((0:Int) < (a0.2.2.1.length:Int))) (
          some (.inr false)) (
          cond (a0.2.2.2.1 != (0:Int)) (
            some (.inr false)) (
            cond (a0.1 != (3:Int)) (
              cond (decide ((0:Int) < (a0.2.2.2.2.length:Int))) (
                some (.inr false)) (
                impl_ruleValid_j1 a0 ())) (
              impl_ruleValid_j1 a0 ())))) (
        cond (a0.1 != (3:Int)) (
          cond (decide ((0:Int) < (a0.2.2.2.2.length:Int))) (
            some (.inr false)) (
            impl_ruleValid_j1 a0 ())) (
          impl_ruleValid_j1 a0 ()))))

noncomputable def impl_ruleValid (a0 : Int × (List Int) × (List Int) × Int × (List (List Int))) (a1 : Int) : Option Bool :=
  loop (impl_ruleValid_l1 a0 a1) (0:Int)

/-- impl.ModelValid$1 -/
noncomputable def impl_ModelValid_1 (r_ : Int × (List Int) × (List Int) × Int × (List (List Int))) (o0 : (List Int) × (List (Int × (List Int) × (List Int) × Int × (List (List Int))))) : Option Bool :=
  (impl_ruleValid r_ (o0.1.length:Int)).bind fun r1_ =>
  some (!r1_)

/-- slices.IndexFunc[[]impl.Rule,impl.Rule] -/
noncomputable def slices_IndexFunc_impl_Rule__impl_ModelValid_1_l1 (s_ : List (Int × (List Int) × (List Int) × Int × (List (List Int)))) (o0 : (List Int) × (List (Int × (List Int) × (List Int) × Int × (List (List Int))))) : Int → Option (Int ⊕ Int) := fun i =>
  cond (decide (i < (s_.length:Int))) (
    rq (0 ≤ i ∧ i < s_.length) <|
    (impl_ModelValid_1 (s_.getD i.toNat (0, ([], ([], (0, []))))) o0).bind fun r1_ =>
    cond r1_ (
      some (.inr i)) (
      rq (i64 (i + (1:Int))) <|
      some (.inl (i + (1:Int))))) (
    some (.inr (-1:Int)))

noncomputable def slices_IndexFunc_impl_Rule__impl_ModelValid_1 (s_ : List (Int × (List Int) × (List Int) × Int × (List (List Int)))) (o0 : (List Int) × (List (Int × (List Int) × (List Int) × Int × (List (List Int))))) : Option Int :=
  loop (slices_IndexFunc_impl_Rule__impl_ModelValid_1_l1 s_ o0) (0:Int)

/-- slices.ContainsFunc[[]impl.Rule,impl.Rule] -/
noncomputable def slices_ContainsFunc_impl_Rule__impl_ModelValid_1 (s_ : List (Int × (List Int) × (List Int) × Int × (List (List Int)))) (o0 : (List Int) × (List (Int × (List Int) × (List Int) × Int × (List (List Int))))) : Option Bool :=
  (slices_IndexFunc_impl_Rule__impl_ModelValid_1 s_ o0).bind fun r1_ =>
  some (decide ((0:Int) ≤ r1_))

/-- impl.ModelValid -/
noncomputable def impl_ModelValid_l1 (m : (List Int) × (List (Int × (List Int) × (List Int) × Int × (List (List Int))))) : Int × Int → Option ((Int × Int) ⊕ Bool) := fun (count, i) =>
  cond (decide (i < (m.1.length:Int))) (
    rq (0 ≤ i ∧ i < m.1.length) <|
    (impl_within (m.1.getD i.toNat 0) (0:Int) (3:Int)).bind fun r2_ =>
    cond (!r2_) (
      some (.inr false)) (
      rq (i64 ((m.1.getD i.toNat 0) + (1:Int))) <|
      rq (i64 (count + ((m.1.getD i.toNat 0) + (1:Int)))) <|
      rq (i64 (i + (1:Int))) <|
      some (.inl ((count + ((m.1.getD i.toNat 0) + (1:Int))), (i + (1:Int)))))) (
    cond (decide (count ≤ (12:Int))) (
      (slices_ContainsFunc_impl_Rule__impl_ModelValid_1 m.2 m).bind fun r3_ =>
      some (.inr (!r3_))) (
      some (.inr false)))

noncomputable def impl_ModelValid (m : (List Int) × (List (Int × (List Int) × (List Int) × Int × (List (List Int))))) : Option Bool :=
  (impl_within (m.1.length:Int) (1:Int) (5:Int)).bind fun r1_ =>
  cond (!r1_) (
    some false) (
    cond (decide ((8:Int) < (m.2.length:Int))) (
      some false) (
      loop (impl_ModelValid_l1 m) ((0:Int), (0:Int))))

/-- impl.DomainsValid -/
noncomputable def impl_DomainsValid_l1 (m : (List Int) × (List (Int × (List Int) × (List Int) × Int × (List (List Int))))) (d : List (List Bool)) : Int → Option (Int ⊕ Bool) := fun i =>
  cond (decide (i < (m.1.length:Int))) (
    rq (0 ≤ i ∧ i < m.1.length) <|
    rq (0 ≤ i ∧ i < d.length) <|
    rq (i64 ((m.1.getD i.toNat 0) + (1:Int))) <|
    cond (((d.getD i.toNat []).length:Int) != ((m.1.getD i.toNat 0) + (1:Int))) (
      some (.inr false)) (
      rq (i64 (i + (1:Int))) <|
      some (.inl (i + (1:Int))))) (
    some (.inr true))

noncomputable def impl_DomainsValid (m : (List Int) × (List (Int × (List Int) × (List Int) × Int × (List (List Int))))) (d : List (List Bool)) : Option Bool :=
  (impl_ModelValid m).bind fun r1_ =>
  cond (!r1_) (
    some false) (
    cond ((d.length:Int) != (m.1.length:Int)) (
      some false) (
      loop (impl_DomainsValid_l1 m d) (0:Int)))

/-- (impl.Model).boolVar -/
noncomputable def impl_Model_boolVar_l1 (m : (List Int) × (List (Int × (List Int) × (List Int) × Int × (List (List Int))))) (cell : Int) : Int × Int → Option ((Int × Int) ⊕ Int) := fun (v, i) =>
  cond (decide (i < ((m.1.take cell.toNat).length:Int))) (
    rq (0 ≤ i ∧ i < (m.1.take cell.toNat).length) <|
    rq (i64 (((m.1.take cell.toNat).getD i.toNat 0) + (1:Int))) <|
    rq (i64 (v + (((m.1.take cell.toNat).getD i.toNat 0) + (1:Int)))) <|
    rq (i64 (i + (1:Int))) <|
    some (.inl ((v + (((m.1.take cell.toNat).getD i.toNat 0) + (1:Int))), (i + (1:Int))))) (
    some (.inr v))

noncomputable def impl_Model_boolVar (m : (List Int) × (List (Int × (List Int) × (List Int) × Int × (List (List Int))))) (cell : Int) (value : Int) : Option Int :=
  rq (i64 ((1:Int) + value)) <|
  rq (0 ≤ cell ∧ cell ≤ m.1.length) <|
  loop (impl_Model_boolVar_l1 m cell) (((1:Int) + value), (0:Int))

/-- impl.DomainsPartial -/
noncomputable def impl_DomainsPartial_l3 (m : (List Int) × (List (Int × (List Int) × (List Int) × Int × (List (List Int))))) (d : List (List Bool)) (i : Int) (count1 : Int) : Int × (List Int) → Option ((Int × (List Int)) ⊕ ((Int × Int) ⊕ ((Int × (List Int)) ⊕ (Bool × (List Int))))) := fun (i4, out2) =>
  cond (decide (i4 < ((d.getD i.toNat []).length:Int))) (
    rq (0 ≤ i4 ∧ i4 < (d.getD i.toNat []).length) <|
    (impl_Model_boolVar m i i4).bind fun r5_ =>
    rq (i64 (r5_ - (1:Int))) <|
    cond (!((d.getD i.toNat []).getD i4.toNat false)) (
      rq (0 ≤ (r5_ - (1:Int)) ∧ (r5_ - (1:Int)) < out2.length) <|
      rq (i64 (i4 + (1:Int))) <|
      some (.inl ((i4 + (1:Int)), (out2.set (r5_ - (1:Int)).toNat (-1:Int))))) (
      cond (count1 == (1:Int)) (
        rq (0 ≤ (r5_ - (1:Int)) ∧ (r5_ - (1:Int)) < out2.length) <|
        rq (i64 (i4 + (1:Int))) <|
        some (.inl ((i4 + (1:Int)), (out2.set (r5_ - (1:Int)).toNat (1:Int))))) (
        rq (i64 (i4 + (1:Int))) <|
        some (.inl ((i4 + (1:Int)), out2))))) (
    rq (i64 (i + (1:Int))) <|
    some (.inr (.inr (.inl ((i + (1:Int)), out2)))))

noncomputable def impl_DomainsPartial_l2 (m : (List Int) × (List (Int × (List Int) × (List Int) × Int × (List (List Int))))) (d : List (List Bool)) (i : Int) (out1 : List Int) : Int × Int → Option ((Int × Int) ⊕ ((Int × (List Int)) ⊕ (Bool × (List Int)))) := fun (count1, i3) =>
  cond (decide (i3 < ((d.getD i.toNat []).length:Int))) (
    rq (0 ≤ i3 ∧ i3 < (d.getD i.toNat []).length) <|
    cond ((d.getD i.toNat []).getD i3.toNat false) (
      rq (i64 (count1 + (1:Int))) <|
      rq (i64 (i3 + (1:Int))) <|
      some (.inl ((count1 + (1:Int)), (i3 + (1:Int))))) (
      rq (i64 (i3 + (1:Int))) <|
      some (.inl (count1, (i3 + (1:Int)))))) (
    loop (impl_DomainsPartial_l3 m d i count1) ((0:Int), out1))

noncomputable def impl_DomainsPartial_l1 (m : (List Int) × (List (Int × (List Int) × (List Int) × Int × (List (List Int))))) (d : List (List Bool)) : Int × (List Int) → Option ((Int × (List Int)) ⊕ (Bool × (List Int))) := fun (i, out1) =>
  cond (decide (i < (d.length:Int))) (
    rq (0 ≤ i ∧ i < d.length) <|
    loop (impl_DomainsPartial_l2 m d i out1) ((0:Int), (0:Int))) (
    some (.inr (true, out1)))

noncomputable def impl_DomainsPartial (m : (List Int) × (List (Int × (List Int) × (List Int) × Int × (List (List Int))))) (d : List (List Bool)) : Option (Bool × (List Int)) :=
  (impl_DomainsValid m d).bind fun r1_ =>
  cond (!r1_) (
    some (false, ([] : List Int))) (
    rq (0 ≤ (12:Int) ∧ (12:Int) ≤ bound ∧ (12:Int) = (12:Int)) <|
    loop (impl_DomainsPartial_l1 m d) ((0:Int), (List.replicate (12:Int).toNat 0)))

/-- spec.l8Fits -/
noncomputable def spec_l8Fits_l1 (m : (List Int) × (List (Int × (List Int) × (List Int) × Int × (List (List Int))))) (d : List (List Bool)) : Int → Option (Int ⊕ Bool) := fun i =>
  cond (decide (i < (d.length:Int))) (
    rq (0 ≤ i ∧ i < d.length) <|
    rq (0 ≤ i ∧ i < m.1.length) <|
    rq (i64 ((m.1.getD i.toNat 0) + (1:Int))) <|
    cond (((d.getD i.toNat []).length:Int) != ((m.1.getD i.toNat 0) + (1:Int))) (
      some (.inr false)) (
      rq (i64 (i + (1:Int))) <|
      some (.inl (i + (1:Int))))) (
    some (.inr true))

noncomputable def spec_l8Fits (m : (List Int) × (List (Int × (List Int) × (List Int) × Int × (List (List Int))))) (d : List (List Bool)) : Option Bool :=
  cond ((d.length:Int) != (m.1.length:Int)) (
    some false) (
    loop (spec_l8Fits_l1 m d) (0:Int))

/-- spec.DomainsValid -/
noncomputable def spec_DomainsValid (m : (List Int) × (List (Int × (List Int) × (List Int) × Int × (List (List Int))))) (d : List (List Bool)) : Option Bool :=
  (spec_ModelValid m).bind fun r1_ =>
  cond r1_ (
    (spec_l8Fits m d).bind fun r2_ =>
    some r2_) (
    some false)

/-- spec.l7Var -/
noncomputable def spec_l7Var_l1 (m : (List Int) × (List (Int × (List Int) × (List Int) × Int × (List (List Int))))) (cell : Int) : Int × Int → Option ((Int × Int) ⊕ Int) := fun (n, i) =>
  cond (decide (i < cell)) (
    rq (0 ≤ i ∧ i < m.1.length) <|
    rq (i64 (n + (m.1.getD i.toNat 0))) <|
    rq (i64 ((n + (m.1.getD i.toNat 0)) + (1:Int))) <|
    rq (i64 (i + (1:Int))) <|
    some (.inl (((n + (m.1.getD i.toNat 0)) + (1:Int)), (i + (1:Int))))) (
    some (.inr n))

noncomputable def spec_l7Var (m : (List Int) × (List (Int × (List Int) × (List Int) × Int × (List (List Int))))) (cell : Int) (value : Int) : Option Int :=
  rq (i64 ((1:Int) + value)) <|
  loop (spec_l7Var_l1 m cell) (((1:Int) + value), (0:Int))

/-- spec.DomainsPartial -/
noncomputable def spec_DomainsPartial_l2 (a0 : (List Int) × (List (Int × (List Int) × (List Int) × Int × (List (List Int))))) (a1 : List (List Bool)) (i : Int) (i12 : Int) : Int × (List Int) → Option ((Int × (List Int)) ⊕ ((Int × (List Int)) ⊕ (Bool × (List Int)))) := fun (i14, i15) =>
  rq (0 ≤ i ∧ i < a1.length) <|
  cond (decide (i14 < ((a1.getD i.toNat []).length:Int))) (
    cond (i12 == (1:Int)) (
      rq (0 ≤ i ∧ i < a1.length) <|
      rq (0 ≤ i14 ∧ i14 < (a1.getD i.toNat []).length) <|
      cond ((a1.getD i.toNat []).getD i14.toNat false) (
        (spec_l7Var a0 i i14).bind fun r9_ =>
        rq (i64 (r9_ - (1:Int))) <|
        rq (0 ≤ (r9_ - (1:Int)) ∧ (r9_ - (1:Int)) < i15.length) <|
        rq (i64 (i14 + (1:Int))) <|
        some (.inl ((i14 + (1:Int)), (i15.set (r9_ - (1:Int)).toNat (1:Int))))) (
        rq (i64 (i14 + (1:Int))) <|
        some (.inl ((i14 + (1:Int)), i15)))) (
      rq (i64 (i + (1:Int))) <|
      some (.inr (.inl ((i + (1:Int)), i15))))) (
    rq (i64 (i + (1:Int))) <|
    some (.inr (.inl ((i + (1:Int)), i15))))

noncomputable def spec_DomainsPartial_j1 (a0 : (List Int) × (List (Int × (List Int) × (List Int) × Int × (List (List Int))))) (a1 : List (List Bool)) (i : Int) : Int × (List Int) → Option ((Int × (List Int)) ⊕ (Bool × (List Int))) := fun (i12, i13) =>
  loop (spec_DomainsPartial_l2 a0 a1 i i12) ((0:Int), i13)

noncomputable def spec_DomainsPartial_l3 (a0 : (List Int) × (List (Int × (List Int) × (List Int) × Int × (List (List Int))))) (a1 : List (List Bool)) (i : Int) : Int × Int × (List Int) → Option ((Int × Int × (List Int)) ⊕ ((Int × (List Int)) ⊕ (Bool × (List Int)))) := fun (i9, i10, i11) =>
  rq (0 ≤ i ∧ i < a1.length) <|
  cond (decide (i10 < ((a1.getD i.toNat []).length:Int))) (
    rq (0 ≤ i ∧ i < a1.length) <|
    rq (0 ≤ i10 ∧ i10 < (a1.getD i.toNat []).length) <|
    cond ((a1.getD i.toNat []).getD i10.toNat false) (
      rq (i64 (i9 + (1:Int))) <|
      rq (i64 (i10 + (1:Int))) <|
      some (.inl ((i9 + (1:Int)), (i10 + (1:Int)), i11))) (
      (spec_l7Var a0 i i10).bind fun r7_ =>
      rq (i64 (r7_ - (1:Int))) <|
      rq (0 ≤ (r7_ - (1:Int)) ∧ (r7_ - (1:Int)) < i11.length) <|
      rq (i64 (i10 + (1:Int))) <|
      some (.inl (i9, (i10 + (1:Int)), (i11.set (r7_ - (1:Int)).toNat (-1:Int)))))) (
    up (spec_DomainsPartial_j1 a0 a1 i (i9, i11)))

noncomputable def spec_DomainsPartial_l1 (a0 : (List Int) × (List (Int × (List Int) × (List Int) × Int × (List (List Int))))) (a1 : List (List Bool)) : Int × (List Int) → Option ((Int × (List Int)) ⊕ (Bool × (List Int))) := fun (i, i8) =>
  cond (decide (i < (a1.length:Int))) (
    loop (spec_DomainsPartial_l3 a0 a1 i) ((0:Int), (0:Int), i8)) (
    some (.inr (true, i8)))

noncomputable def spec_DomainsPartial (a0 : (List Int) × (List (Int × (List Int) × (List Int) × Int × (List (List Int))))) (a1 : List (List Bool)) : Option (Bool × (List Int)) :=
  (spec_DomainsValid a0 a1).bind fun r1_ =>
  cond (!r1_) (
    some (false, ([] : List Int))) (
    rq (0 ≤ (12:Int) ∧ (12:Int) ≤ bound ∧ (12:Int) = (12:Int)) <|
    loop (spec_DomainsPartial_l1 a0 a1) ((0:Int), (List.replicate (12:Int).toNat 0)))

/-- impl.CellsValid -/
noncomputable def impl_CellsValid_l1 (m : (List Int) × (List (Int × (List Int) × (List Int) × Int × (List (List Int))))) (cells : List Int) : Int → Option (Int ⊕ Bool) := fun i =>
  cond (decide (i < (cells.length:Int))) (
    rq (0 ≤ i ∧ i < cells.length) <|
    rq (0 ≤ i ∧ i < m.1.length) <|
    (impl_within (cells.getD i.toNat 0) (0:Int) (m.1.getD i.toNat 0)).bind fun r2_ =>
    cond (!r2_) (
      some (.inr false)) (
      rq (i64 (i + (1:Int))) <|
      some (.inl (i + (1:Int))))) (
    some (.inr true))

noncomputable def impl_CellsValid (m : (List Int) × (List (Int × (List Int) × (List Int) × Int × (List (List Int))))) (cells : List Int) : Option Bool :=
  (impl_ModelValid m).bind fun r1_ =>
  cond (!r1_) (
    some false) (
    cond ((cells.length:Int) != (m.1.length:Int)) (
      some false) (
      loop (impl_CellsValid_l1 m cells) (0:Int)))

/-- impl.inside -/
noncomputable def impl_inside_l1 (d : List (List Bool)) (cells : List Int) : Int → Option (Int ⊕ Bool) := fun i =>
  cond (decide (i < (cells.length:Int))) (
    rq (0 ≤ i ∧ i < cells.length) <|
    rq (0 ≤ i ∧ i < d.length) <|
    rq (0 ≤ (cells.getD i.toNat 0) ∧ (cells.getD i.toNat 0) < (d.getD i.toNat []).length) <|
    cond (!((d.getD i.toNat []).getD (cells.getD i.toNat 0).toNat false)) (
      some (.inr false)) (
      rq (i64 (i + (1:Int))) <|
      some (.inl (i + (1:Int))))) (
    some (.inr true))

noncomputable def impl_inside (d : List (List Bool)) (cells : List Int) : Option Bool :=
  loop (impl_inside_l1 d cells) (0:Int)

/-- impl.CellsIn -/
noncomputable def impl_CellsIn (m : (List Int) × (List (Int × (List Int) × (List Int) × Int × (List (List Int))))) (d : List (List Bool)) (cells : List Int) : Option Bool :=
  (impl_DomainsValid m d).bind fun r1_ =>
  cond r1_ (
    (impl_CellsValid m cells).bind fun r2_ =>
    cond r2_ (
      (impl_inside d cells).bind fun r3_ =>
      some r3_) (
      some false)) (
    some false)

/-- laws.cpInts -/
noncomputable def laws_cpInts_l1 (a : List Int) (b : List Int) : Int → Option (Int ⊕ Bool) := fun i =>
  cond (decide (i < (a.length:Int))) (
    rq (0 ≤ i ∧ i < a.length) <|
    rq (0 ≤ i ∧ i < b.length) <|
    cond ((a.getD i.toNat 0) != (b.getD i.toNat 0)) (
      some (.inr false)) (
      rq (i64 (i + (1:Int))) <|
      some (.inl (i + (1:Int))))) (
    some (.inr true))

noncomputable def laws_cpInts (a : List Int) (b : List Int) : Option Bool :=
  cond ((a.length:Int) != (b.length:Int)) (
    some false) (
    loop (laws_cpInts_l1 a b) (0:Int))

/-- spec.l6Cells -/
noncomputable def spec_l6Cells_l1 (m : (List Int) × (List (Int × (List Int) × (List Int) × Int × (List (List Int))))) (cells : List Int) : Int → Option (Int ⊕ Bool) := fun i =>
  cond (decide (i < (cells.length:Int))) (
    rq (0 ≤ i ∧ i < cells.length) <|
    cond (decide ((cells.getD i.toNat 0) < (0:Int))) (
      some (.inr false)) (
      rq (0 ≤ i ∧ i < cells.length) <|
      rq (0 ≤ i ∧ i < m.1.length) <|
      cond (decide ((m.1.getD i.toNat 0) < (cells.getD i.toNat 0))) (
        some (.inr false)) (
        rq (i64 (i + (1:Int))) <|
        some (.inl (i + (1:Int)))))) (
    some (.inr true))

noncomputable def spec_l6Cells (m : (List Int) × (List (Int × (List Int) × (List Int) × Int × (List (List Int))))) (cells : List Int) : Option Bool :=
  cond ((cells.length:Int) != (m.1.length:Int)) (
    some false) (
    loop (spec_l6Cells_l1 m cells) (0:Int))

/-- spec.l8In -/
noncomputable def spec_l8In_l1 (d : List (List Bool)) (cells : List Int) : Int → Option (Int ⊕ Bool) := fun i =>
  cond (decide (i < (cells.length:Int))) (
    rq (0 ≤ i ∧ i < d.length) <|
    rq (0 ≤ i ∧ i < cells.length) <|
    rq (0 ≤ (cells.getD i.toNat 0) ∧ (cells.getD i.toNat 0) < (d.getD i.toNat []).length) <|
    cond (!((d.getD i.toNat []).getD (cells.getD i.toNat 0).toNat false)) (
      some (.inr false)) (
      rq (i64 (i + (1:Int))) <|
      some (.inl (i + (1:Int))))) (
    some (.inr true))

noncomputable def spec_l8In (d : List (List Bool)) (cells : List Int) : Option Bool :=
  loop (spec_l8In_l1 d cells) (0:Int)

/-- spec.CellsIn -/
noncomputable def spec_CellsIn (m : (List Int) × (List (Int × (List Int) × (List Int) × Int × (List (List Int))))) (d : List (List Bool)) (cells : List Int) : Option Bool :=
  (spec_DomainsValid m d).bind fun r1_ =>
  cond r1_ (
    (spec_l6Cells m cells).bind fun r2_ =>
    cond r2_ (
      (spec_l8In d cells).bind fun r3_ =>
      some r3_) (
      some false)) (
    some false)

/-- impl.EncodeCells -/
noncomputable def impl_EncodeCells_l1 (m : (List Int) × (List (Int × (List Int) × (List Int) × Int × (List (List Int))))) (cells : List Int) : Int × (List Bool) → Option ((Int × (List Bool)) ⊕ (Bool × (List Bool))) := fun (i, out) =>
  cond (decide (i < (cells.length:Int))) (
    rq (0 ≤ i ∧ i < cells.length) <|
    (impl_Model_boolVar m i (cells.getD i.toNat 0)).bind fun r3_ =>
    rq (i64 (r3_ - (1:Int))) <|
    rq (0 ≤ (r3_ - (1:Int)) ∧ (r3_ - (1:Int)) < out.length) <|
    rq (i64 (i + (1:Int))) <|
    some (.inl ((i + (1:Int)), (out.set (r3_ - (1:Int)).toNat true)))) (
    some (.inr (true, out)))

noncomputable def impl_EncodeCells (m : (List Int) × (List (Int × (List Int) × (List Int) × Int × (List (List Int))))) (cells : List Int) : Option (Bool × (List Bool)) :=
  (impl_CellsValid m cells).bind fun r1_ =>
  cond (!r1_) (
    some (false, ([] : List Bool))) (
    rq (0 ≤ (12:Int) ∧ (12:Int) ≤ bound ∧ (12:Int) = (12:Int)) <|
    loop (impl_EncodeCells_l1 m cells) ((0:Int), (List.replicate (12:Int).toNat false)))

/-- impl.PartialValid$1 -/
noncomputable def impl_PartialValid_1 (n : Int) : Option Bool :=
  (impl_within n (-1:Int) (1:Int)).bind fun r1_ =>
  some (!r1_)

/-- slices.IndexFunc[[]int,int] -/
noncomputable def slices_IndexFunc_int__impl_PartialValid_1_l1 (s_ : List Int) : Int → Option (Int ⊕ Int) := fun i =>
  cond (decide (i < (s_.length:Int))) (
    rq (0 ≤ i ∧ i < s_.length) <|
    (impl_PartialValid_1 (s_.getD i.toNat 0)).bind fun r1_ =>
    cond r1_ (
      some (.inr i)) (
      rq (i64 (i + (1:Int))) <|
      some (.inl (i + (1:Int))))) (
    some (.inr (-1:Int)))

noncomputable def slices_IndexFunc_int__impl_PartialValid_1 (s_ : List Int) : Option Int :=
  loop (slices_IndexFunc_int__impl_PartialValid_1_l1 s_) (0:Int)

/-- slices.ContainsFunc[[]int,int] -/
noncomputable def slices_ContainsFunc_int__impl_PartialValid_1 (s_ : List Int) : Option Bool :=
  (slices_IndexFunc_int__impl_PartialValid_1 s_).bind fun r1_ =>
  some (decide ((0:Int) ≤ r1_))

/-- impl.PartialValid -/
noncomputable def impl_PartialValid (p : List Int) : Option Bool :=
  cond ((p.length:Int) == (12:Int)) (
    (slices_ContainsFunc_int__impl_PartialValid_1 p).bind fun r1_ =>
    some (!r1_)) (
    some false)

/-- impl.ExtendsPartial -/
noncomputable def impl_ExtendsPartial_l1 (p : List Int) (values : List Bool) : Int → Option (Int ⊕ Bool) := fun i =>
  cond (decide (i < (p.length:Int))) (
    rq (0 ≤ i ∧ i < p.length) <|
    cond ((p.getD i.toNat 0) != (0:Int)) (
      rq (0 ≤ i ∧ i < values.length) <|
      cond ((values.getD i.toNat false) != (decide ((0:Int) < (p.getD i.toNat 0)))) (
        some (.inr false)) (
        rq (i64 (i + (1:Int))) <|
        some (.inl (i + (1:Int))))) (
      rq (i64 (i + (1:Int))) <|
      some (.inl (i + (1:Int))))) (
    some (.inr true))

noncomputable def impl_ExtendsPartial (p : List Int) (values : List Bool) : Option Bool :=
  (impl_PartialValid p).bind fun r1_ =>
  cond (!r1_) (
    some false) (
    cond ((values.length:Int) != (12:Int)) (
      some false) (
      loop (impl_ExtendsPartial_l1 p values) (0:Int)))

/-- laws.FnDomainsPartial -/
noncomputable def laws_FnDomainsPartial (a0 : List Int) : Option Bool :=
  cond (decide ((1048576:Int) < (a0.length:Int))) (
    some true) (
    (spec_DrawCellsIn a0).bind fun r1_ =>
    (impl_DomainsPartial r1_.2.2 r1_.1).bind fun r2_ =>
    (spec_DomainsPartial r1_.2.2 r1_.1).bind fun r3_ =>
    (impl_CellsIn r1_.2.2 r1_.1 r1_.2.1).bind fun r4_ =>
    cond (r2_.1 != r3_.1) (
      cond (r2_.1 == r3_.1) (
        (laws_cpInts r2_.2 r3_.2).bind fun r13_ =>
        cond r13_ (
          (spec_CellsIn r1_.2.2 r1_.1 r1_.2.1).bind fun r14_ =>
          some (r4_ == r14_)) (
          some false)) (
        some false)) (
      (laws_cpInts r2_.2 r3_.2).bind fun r5_ =>
      cond (!r5_) (
        cond (r2_.1 == r3_.1) (
          (laws_cpInts r2_.2 r3_.2).bind fun r11_ =>
          cond r11_ (
            (spec_CellsIn r1_.2.2 r1_.1 r1_.2.1).bind fun r12_ =>
            some (r4_ == r12_)) (
            some false)) (
          some false)) (
        (spec_CellsIn r1_.2.2 r1_.1 r1_.2.1).bind fun r6_ =>
        cond (r4_ != r6_) (
          cond (r2_.1 == r3_.1) (
            (laws_cpInts r2_.2 r3_.2).bind fun r9_ =>
            cond r9_ (
              (spec_CellsIn r1_.2.2 r1_.1 r1_.2.1).bind fun r10_ =>
              some (r4_ == r10_)) (
              some false)) (
            some false)) (
          cond (!r2_.1) (
            cond (r2_.1 == r3_.1) (
              (laws_cpInts r2_.2 r3_.2).bind fun r7_ =>
              cond r7_ (
                (spec_CellsIn r1_.2.2 r1_.1 r1_.2.1).bind fun r8_ =>
                some (r4_ == r8_)) (
                some false)) (
              some false)) (
            (impl_EncodeCells r1_.2.2 r1_.2.1).bind fun r15_ =>
            (impl_PartialValid r2_.2).bind fun r16_ =>
            cond r16_ (
              cond (!r15_.1) (
                some true) (
                (impl_ExtendsPartial r2_.2 r15_.2).bind fun r17_ =>
                some (r17_ == r4_))) (
              some false))))))

end Go.AE.Y
