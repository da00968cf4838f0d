/-
  Models of the functions: what each computes, as a Lean function into Option. Definitions alone.
-/
import Derived.Test.YtpeelmjecjbfjaaAEx3
namespace Go.AE.Y
open Go Go.AE
set_option linter.unusedVariables false

/-- spec.l17Open -/
noncomputable def spec_l17Open_j1 : (List Int) → Option (((List Int) × Int)) := fun code1 =>
  some (code1, (0:Int))

noncomputable def spec_l17Open (code : List Int) : Option (((List Int) × Int)) :=
  cond (decide ((2000:Int) < (code.length:Int))) (
    rq (0 ≤ (2000:Int) ∧ (2000:Int) ≤ code.length) <|
    spec_l17Open_j1 (code.take (2000:Int).toNat)) (
    spec_l17Open_j1 code)

/-- (*spec.l17Rd).pick -/
noncomputable def spec_l17Rd_pick (a1 : Int) (o0 : (List Int) × Int) : Option (Int × ((List Int) × Int)) :=
  rq (i64 (o0.2 + (1:Int))) <|
  cond (decide (a1 < (1:Int))) (
    some ((0:Int), (o0.1, (o0.2 + (1:Int))))) (
    cond ((o0.1.length:Int) == (0:Int)) (
      some ((0:Int), (o0.1, (o0.2 + (1:Int))))) (
      rq (i64 ((o0.2 + (1:Int)) - (1:Int))) <|
      cond (decide (((o0.2 + (1:Int)) - (1:Int)) < (o0.1.length:Int))) (
        rq (0 ≤ ((o0.2 + (1:Int)) - (1:Int)) ∧ ((o0.2 + (1:Int)) - (1:Int)) < o0.1.length) <|
        rq (i64 (o0.1.getD ((o0.2 + (1:Int)) - (1:Int)).toNat 0)) <|
        rq (1 ≤ a1 ∧ 0 ≤ (o0.1.getD ((o0.2 + (1:Int)) - (1:Int)).toNat 0)) <|
        some (((o0.1.getD ((o0.2 + (1:Int)) - (1:Int)).toNat 0) % a1), (o0.1, (o0.2 + (1:Int))))) (
        rq (1 ≤ (o0.1.length:Int) ∧ 0 ≤ ((o0.2 + (1:Int)) - (1:Int))) <|
        rq (0 ≤ (((o0.2 + (1:Int)) - (1:Int)) % (o0.1.length:Int)) ∧ (((o0.2 + (1:Int)) - (1:Int)) % (o0.1.length:Int)) < o0.1.length) <|
        rq (i64 (o0.1.getD (((o0.2 + (1:Int)) - (1:Int)) % (o0.1.length:Int)).toNat 0)) <|
        rq (i64 ((o0.1.getD (((o0.2 + (1:Int)) - (1:Int)) % (o0.1.length:Int)).toNat 0) * (131:Int))) <|
        rq (i64 (((o0.2 + (1:Int)) - (1:Int)) * (7:Int))) <|
        rq (i64 ((((o0.2 + (1:Int)) - (1:Int)) * (7:Int)) + (3:Int))) <|
        rq (1 ≤ (o0.1.length:Int) ∧ 0 ≤ ((((o0.2 + (1:Int)) - (1:Int)) * (7:Int)) + (3:Int))) <|
        rq (0 ≤ (((((o0.2 + (1:Int)) - (1:Int)) * (7:Int)) + (3:Int)) % (o0.1.length:Int)) ∧ (((((o0.2 + (1:Int)) - (1:Int)) * (7:Int)) + (3:Int)) % (o0.1.length:Int)) < o0.1.length) <|
        rq (i64 (o0.1.getD (((((o0.2 + (1:Int)) - (1:Int)) * (7:Int)) + (3:Int)) % (o0.1.length:Int)).toNat 0)) <|
        rq (i64 ((o0.1.getD (((((o0.2 + (1:Int)) - (1:Int)) * (7:Int)) + (3:Int)) % (o0.1.length:Int)).toNat 0) * (1117:Int))) <|
        rq (i64 (((o0.1.getD (((o0.2 + (1:Int)) - (1:Int)) % (o0.1.length:Int)).toNat 0) * (131:Int)) + ((o0.1.getD (((((o0.2 + (1:Int)) - (1:Int)) * (7:Int)) + (3:Int)) % (o0.1.length:Int)).toNat 0) * (1117:Int)))) <|
        rq (i64 (((o0.2 + (1:Int)) - (1:Int)) * (29:Int))) <|
        rq (i64 ((((o0.1.getD (((o0.2 + (1:Int)) - (1:Int)) % (o0.1.length:Int)).toNat 0) * (131:Int)) + ((o0.1.getD (((((o0.2 + (1:Int)) - (1:Int)) * (7:Int)) + (3:Int)) % (o0.1.length:Int)).toNat 0) * (1117:Int))) + (((o0.2 + (1:Int)) - (1:Int)) * (29:Int)))) <|
        rq (1 ≤ (o0.1.length:Int) ∧ 0 ≤ ((o0.2 + (1:Int)) - (1:Int))) <|
        rq (i64 ((((o0.2 + (1:Int)) - (1:Int)) / (o0.1.length:Int)) * (53:Int))) <|
        rq (i64 (((((o0.1.getD (((o0.2 + (1:Int)) - (1:Int)) % (o0.1.length:Int)).toNat 0) * (131:Int)) + ((o0.1.getD (((((o0.2 + (1:Int)) - (1:Int)) * (7:Int)) + (3:Int)) % (o0.1.length:Int)).toNat 0) * (1117:Int))) + (((o0.2 + (1:Int)) - (1:Int)) * (29:Int))) + ((((o0.2 + (1:Int)) - (1:Int)) / (o0.1.length:Int)) * (53:Int)))) <|
        rq (1 ≤ (64:Int) ∧ 0 ≤ (((((o0.1.getD (((o0.2 + (1:Int)) - (1:Int)) % (o0.1.length:Int)).toNat 0) * (131:Int)) + ((o0.1.getD (((((o0.2 + (1:Int)) - (1:Int)) * (7:Int)) + (3:Int)) % (o0.1.length:Int)).toNat 0) * (1117:Int))) + (((o0.2 + (1:Int)) - (1:Int)) * (29:Int))) + ((((o0.2 + (1:Int)) - (1:Int)) / (o0.1.length:Int)) * (53:Int)))) <|
        rq (0 ≤ (((((o0.1.getD (((o0.2 + (1:Int)) - (1:Int)) % (o0.1.length:Int)).toNat 0) * (131:Int)) + ((o0.1.getD (((((o0.2 + (1:Int)) - (1:Int)) * (7:Int)) + (3:Int)) % (o0.1.length:Int)).toNat 0) * (1117:Int))) + (((o0.2 + (1:Int)) - (1:Int)) * (29:Int))) + ((((o0.2 + (1:Int)) - (1:Int)) / (o0.1.length:Int)) * (53:Int))) ∧ 0 ≤ ((((((o0.1.getD (((o0.2 + (1:Int)) - (1:Int)) % (o0.1.length:Int)).toNat 0) * (131:Int)) + ((o0.1.getD (((((o0.2 + (1:Int)) - (1:Int)) * (7:Int)) + (3:Int)) % (o0.1.length:Int)).toNat 0) * (1117:Int))) + (((o0.2 + (1:Int)) - (1:Int)) * (29:Int))) + ((((o0.2 + (1:Int)) - (1:Int)) / (o0.1.length:Int)) * (53:Int))) / (64:Int))) <|
        rq (1 ≤ a1 ∧ 0 ≤ (((((((o0.1.getD (((o0.2 + (1:Int)) - (1:Int)) % (o0.1.length:Int)).toNat 0) * (131:Int)) + ((o0.1.getD (((((o0.2 + (1:Int)) - (1:Int)) * (7:Int)) + (3:Int)) % (o0.1.length:Int)).toNat 0) * (1117:Int))) + (((o0.2 + (1:Int)) - (1:Int)) * (29:Int))) + ((((o0.2 + (1:Int)) - (1:Int)) / (o0.1.length:Int)) * (53:Int))).toNat ^^^ ((((((o0.1.getD (((o0.2 + (1:Int)) - (1:Int)) % (o0.1.length:Int)).toNat 0) * (131:Int)) + ((o0.1.getD (((((o0.2 + (1:Int)) - (1:Int)) * (7:Int)) + (3:Int)) % (o0.1.length:Int)).toNat 0) * (1117:Int))) + (((o0.2 + (1:Int)) - (1:Int)) * (29:Int))) + ((((o0.2 + (1:Int)) - (1:Int)) / (o0.1.length:Int)) * (53:Int))) / (64:Int)).toNat : Nat) : Int)) <|
        some (((((((((o0.1.getD (((o0.2 + (1:Int)) - (1:Int)) % (o0.1.length:Int)).toNat 0) * (131:Int)) + ((o0.1.getD (((((o0.2 + (1:Int)) - (1:Int)) * (7:Int)) + (3:Int)) % (o0.1.length:Int)).toNat 0) * (1117:Int))) + (((o0.2 + (1:Int)) - (1:Int)) * (29:Int))) + ((((o0.2 + (1:Int)) - (1:Int)) / (o0.1.length:Int)) * (53:Int))).toNat ^^^ ((((((o0.1.getD (((o0.2 + (1:Int)) - (1:Int)) % (o0.1.length:Int)).toNat 0) * (131:Int)) + ((o0.1.getD (((((o0.2 + (1:Int)) - (1:Int)) * (7:Int)) + (3:Int)) % (o0.1.length:Int)).toNat 0) * (1117:Int))) + (((o0.2 + (1:Int)) - (1:Int)) * (29:Int))) + ((((o0.2 + (1:Int)) - (1:Int)) / (o0.1.length:Int)) * (53:Int))) / (64:Int)).toNat : Nat) : Int) % a1), (o0.1, (o0.2 + (1:Int)))))))

/-- (*spec.l17Rd).num -/
noncomputable def spec_l17Rd_num (list_ : List Int) (r_ : (List Int) × Int) : Option (Int × ((List Int) × Int)) :=
  (spec_l17Rd_pick (list_.length:Int) r_).bind fun r1_ =>
  rq (0 ≤ r1_.1 ∧ r1_.1 < list_.length) <|
  some ((list_.getD r1_.1.toNat 0), r1_.2)

/-- spec.DrawClauseOf -/
noncomputable def spec_DrawClauseOf_j1 : ((List Int) × Int) × (List Int) → Option (List Int) := fun (r_1, out1) =>
  cond (decide ((0:Int) < (out1.length:Int))) (
    (spec_l17Rd_pick (20:Int) r_1).bind fun r5_ =>
    cond (r5_.1 == (0:Int)) (
      (spec_l17Rd_num [(0:Int), (13:Int), (-9223372036854775808:Int)] r5_.2).bind fun r6_ =>
      rq (0 ≤ (0:Int) ∧ (0:Int) < out1.length) <|
      some (out1.set (0:Int).toNat r6_.1)) (
      some out1)) (
    some out1)

noncomputable def spec_DrawClauseOf_l1 : Int × ((List Int) × Int) × (List Int) → Option ((Int × ((List Int) × Int) × (List Int)) ⊕ (List Int)) := fun (i, r_, out) =>
  cond (decide ((0:Int) < i)) (
    (spec_l17Rd_num [(1:Int), (-2:Int), (3:Int), (2:Int), (-1:Int), (4:Int), (12:Int), (-5:Int), (6:Int)] r_).bind fun r4_ =>
    rq (out.length + [r4_.1].length ≤ bound) <|
    rq (i64 (i - (1:Int))) <|
    some (.inl ((i - (1:Int)), r4_.2, (out ++ [r4_.1])))) (
    up (spec_DrawClauseOf_j1 (r_, out)))

noncomputable def spec_DrawClauseOf (code : List Int) : Option (List Int) :=
  (spec_l17Open code).bind fun r1_ =>
  (spec_l17Rd_num [(3:Int), (2:Int), (4:Int), (1:Int), (0:Int), (6:Int)] r1_).bind fun r2_ =>
  loop (spec_DrawClauseOf_l1) (r2_.1, r2_.2, ([] : List Int))

/-- spec.l1Lit -/
noncomputable def spec_l1Lit (n : Int) : Option Bool :=
  cond (n != (0:Int)) (
    cond (decide ((-12:Int) ≤ n)) (
      some (decide (n ≤ (12:Int)))) (
      some false)) (
    some false)

/-- spec.l1Abs -/
noncomputable def spec_l1Abs (n : Int) : Option Int :=
  cond (decide (n < (0:Int))) (
    rq (i64 (0 - n)) <|
    some (0 - n)) (
    some n)

/-- spec.ClauseOf -/
noncomputable def spec_ClauseOf_l1 (i2 : List Int) : Int × (List (Int × Int)) → Option ((Int × (List (Int × Int))) ⊕ (Bool × Int × (List (Int × Int)))) := fun (i3, i_0) =>
  cond (decide (i3 ≤ (12:Int))) (
    rq (0 ≤ i3 ∧ i3 < i2.length) <|
    cond ((i2.getD i3.toNat 0) != (0:Int)) (
      rq (0 ≤ i3 ∧ i3 < i2.length) <|
      rq (i_0.length + [((1:Int), (i2.getD i3.toNat 0))].length ≤ bound) <|
      rq (i64 (i3 + (1:Int))) <|
      some (.inl ((i3 + (1:Int)), (i_0 ++ [((1:Int), (i2.getD i3.toNat 0))])))) (
      rq (i64 (i3 + (1:Int))) <|
      some (.inl ((i3 + (1:Int)), i_0)))) (
    some (.inr (true, (1:Int), i_0)))

noncomputable def spec_ClauseOf_j1 : (List Int) → Option (Bool × Int × (List (Int × Int))) := fun i2 =>
  loop (spec_ClauseOf_l1 i2) ((1:Int), ([] : List (Int × Int)))

noncomputable def spec_ClauseOf_l2 (a0 : List Int) : Int × (List Int) → Option ((Int × (List Int)) ⊕ (Bool × Int × (List (Int × Int)))) := fun (i, i1) =>
  cond (decide (i < (a0.length:Int))) (
    rq (0 ≤ i ∧ i < a0.length) <|
    (spec_l1Lit (a0.getD i.toNat 0)).bind fun r3_ =>
    cond (!r3_) (
      some (.inr (false, (0:Int), ([] : List (Int × Int))))) (
      rq (0 ≤ i ∧ i < a0.length) <|
      (spec_l1Abs (a0.getD i.toNat 0)).bind fun r4_ =>
      rq (0 ≤ r4_ ∧ r4_ < i1.length) <|
      rq (0 ≤ i ∧ i < a0.length) <|
      rq (i64 (0 - (a0.getD i.toNat 0))) <|
      cond ((i1.getD r4_.toNat 0) == (0 - (a0.getD i.toNat 0))) (
        some (.inr (false, (0:Int), ([] : List (Int × Int))))) (
        rq (0 ≤ i ∧ i < a0.length) <|
        rq (0 ≤ r4_ ∧ r4_ < i1.length) <|
        rq (i64 (i + (1:Int))) <|
        some (.inl ((i + (1:Int)), (i1.set r4_.toNat (a0.getD i.toNat 0))))))) (
    up (spec_ClauseOf_j1 i1))

noncomputable def spec_ClauseOf (a0 : List Int) : Option (Bool × Int × (List (Int × Int))) :=
  rq (0 ≤ (13:Int) ∧ (13:Int) ≤ bound ∧ (13:Int) = (13:Int)) <|
  cond (decide ((40:Int) < (a0.length:Int))) (
    some (false, (0:Int), ([] : List (Int × Int)))) (
    loop (spec_ClauseOf_l2 a0) ((0:Int), (List.replicate (13:Int).toNat 0)))

/-- spec.l1Total -/
noncomputable def spec_l1Total_l1 (c_ : (List (Int × Int)) × Int) : Int × Int → Option ((Int × Int) ⊕ Int) := fun (n, i) =>
  cond (decide (i < (c_.1.length:Int))) (
    rq (0 ≤ i ∧ i < c_.1.length) <|
    rq (i64 (n + (c_.1.getD i.toNat (0, 0)).1)) <|
    rq (i64 (i + (1:Int))) <|
    some (.inl ((n + (c_.1.getD i.toNat (0, 0)).1), (i + (1:Int))))) (
    some (.inr n))

noncomputable def spec_l1Total (c_ : (List (Int × Int)) × Int) : Option Int :=
  loop (spec_l1Total_l1 c_) ((0:Int), (0:Int))

/-- spec.l1Draw -/
noncomputable def spec_l1Draw_j1 : ((List Int) × Int) × (List (Int × Int)) → Option (((List Int) × Int) × Int × (List (Int × Int))) := fun (r_4, c_01) =>
  (spec_l1Total (c_01, (0:Int))).bind fun r7_ =>
  (spec_l17Rd_num [(1:Int), (2:Int), (1:Int), (3:Int), (0:Int)] r_4).bind fun r8_ =>
  (spec_l17Rd_pick (4:Int) r8_.2).bind fun r9_ =>
  cond (r9_.1 == (0:Int)) (
    rq (i64 (r7_ + (2:Int))) <|
    (spec_l17Rd_pick (r7_ + (2:Int)) r9_.2).bind fun r10_ =>
    some (r10_.2, r10_.1, c_01)) (
    some (r9_.2, r8_.1, c_01))

noncomputable def spec_l1Draw_j2 (v : Int) (c_0 : List (Int × Int)) : ((List Int) × Int) × (Int × Int) → Option ((Int × ((List Int) × Int) × (List (Int × Int))) ⊕ (((List Int) × Int) × Int × (List (Int × Int)))) := fun (r_3, t_1) =>
  rq (c_0.length + [t_1].length ≤ bound) <|
  rq (i64 (v + (1:Int))) <|
  some (.inl ((v + (1:Int)), r_3, (c_0 ++ [t_1])))

noncomputable def spec_l1Draw_l1 (most : Int) : Int × ((List Int) × Int) × (List (Int × Int)) → Option ((Int × ((List Int) × Int) × (List (Int × Int))) ⊕ (((List Int) × Int) × Int × (List (Int × Int)))) := fun (v, r_2, c_0) =>
  cond (decide (v ≤ most)) (
    (spec_l17Rd_pick (2:Int) r_2).bind fun r4_ =>
    cond (r4_.1 == (0:Int)) (
      (spec_l17Rd_num [(1:Int), (1:Int), (2:Int), (3:Int), (1:Int), (5:Int), (4:Int)] r4_.2).bind fun r5_ =>
      (spec_l17Rd_pick (2:Int) r5_.2).bind fun r6_ =>
      cond (r6_.1 == (0:Int)) (
        rq (i64 (0 - v)) <|
        spec_l1Draw_j2 v c_0 (r6_.2, (r5_.1, (0 - v)))) (
        spec_l1Draw_j2 v c_0 (r6_.2, (r5_.1, v)))) (
      rq (i64 (v + (1:Int))) <|
      some (.inl ((v + (1:Int)), r4_.2, c_0)))) (
    up (spec_l1Draw_j1 (r_2, c_0)))

noncomputable def spec_l1Draw (most : Int) (r_ : (List Int) × Int) : Option (((List Int) × Int) × Int × (List (Int × Int))) :=
  loop (spec_l1Draw_l1 most) ((1:Int), r_, ([] : List (Int × Int)))

/-- spec.l4Step -/
noncomputable def spec_l4Step (n : Int) (r_ : (List Int) × Int) : Option (((List Int) × Int) × Int × Int × Int × Int × (List (Int × Int))) :=
  (spec_l17Rd_num [(1:Int), (1:Int), (5:Int), (4:Int), (3:Int), (2:Int), (6:Int), (7:Int), (8:Int)] r_).bind fun r1_ =>
  cond (r1_.1 == (6:Int)) (
    (spec_l17Rd_num [(1:Int), (-1:Int), (2:Int), (-3:Int), (4:Int)] r1_.2).bind fun r2_ =>
    some (r2_.2, r1_.1, r2_.1, (0:Int), (0:Int), ([] : List (Int × Int)))) (
    cond (r1_.1 == (7:Int)) (
      (spec_l1Draw (4:Int) r1_.2).bind fun r3_ =>
      some (r3_.1, r1_.1, (0:Int), (0:Int), r3_.2.1, r3_.2.2)) (
      rq (i64 (n + (1:Int))) <|
      (spec_l17Rd_pick (n + (1:Int)) r1_.2).bind fun r4_ =>
      cond (r1_.1 == (1:Int)) (
        rq (i64 (n + (1:Int))) <|
        (spec_l17Rd_pick (n + (1:Int)) r4_.2).bind fun r5_ =>
        some (r5_.2, r1_.1, r4_.1, r5_.1, (0:Int), ([] : List (Int × Int)))) (
        cond (r1_.1 == (2:Int)) (
          (spec_l17Rd_num [(2:Int), (3:Int), (1:Int)] r4_.2).bind fun r6_ =>
          some (r6_.2, r1_.1, r4_.1, r6_.1, (0:Int), ([] : List (Int × Int)))) (
          cond (r1_.1 == (3:Int)) (
            (spec_l17Rd_num [(2:Int), (3:Int), (1:Int)] r4_.2).bind fun r7_ =>
            some (r7_.2, r1_.1, r4_.1, r7_.1, (0:Int), ([] : List (Int × Int)))) (
            cond (r1_.1 == (5:Int)) (
              (spec_l17Rd_pick (5:Int) r4_.2).bind fun r8_ =>
              rq (i64 ((1:Int) + r8_.1)) <|
              some (r8_.2, r1_.1, r4_.1, ((1:Int) + r8_.1), (0:Int), ([] : List (Int × Int)))) (
              some (r4_.2, r1_.1, r4_.1, (0:Int), (0:Int), ([] : List (Int × Int)))))))))

/-- spec.l12Draw -/
noncomputable def spec_l12Draw_j1 : ((List Int) × Int) × (List Int) → Option (((List Int) × Int) × (List Int)) := fun (r_2, out1) =>
  (spec_l17Rd_pick (30:Int) r_2).bind fun r3_ =>
  cond (r3_.1 == (0:Int)) (
    (spec_l17Rd_num [(1:Int), (13:Int), (0:Int), (-2:Int)] r3_.2).bind fun r4_ =>
    rq (out1.length + [r4_.1].length ≤ bound) <|
    some (r4_.2, (out1 ++ [r4_.1]))) (
    cond (r3_.1 == (1:Int)) (
      some (r3_.2, [(1:Int), (2:Int), (3:Int), (4:Int), (5:Int)])) (
      cond (r3_.1 == (2:Int)) (
        some (r3_.2, [(2:Int), (4:Int), (6:Int), (12:Int)])) (
        some (r3_.2, out1))))

noncomputable def spec_l12Draw_l1 : Int × ((List Int) × Int) × (List Int) → Option ((Int × ((List Int) × Int) × (List Int)) ⊕ (((List Int) × Int) × (List Int))) := fun (v, r_1, out) =>
  cond (decide (v ≤ (5:Int))) (
    (spec_l17Rd_pick (2:Int) r_1).bind fun r2_ =>
    cond (r2_.1 == (0:Int)) (
      cond (decide ((out.length:Int) < (3:Int))) (
        rq (out.length + [v].length ≤ bound) <|
        rq (i64 (v + (1:Int))) <|
        some (.inl ((v + (1:Int)), r2_.2, (out ++ [v])))) (
        rq (i64 (v + (1:Int))) <|
        some (.inl ((v + (1:Int)), r2_.2, out)))) (
      rq (i64 (v + (1:Int))) <|
      some (.inl ((v + (1:Int)), r2_.2, out)))) (
    up (spec_l12Draw_j1 (r_1, out)))

noncomputable def spec_l12Draw (r_ : (List Int) × Int) : Option (((List Int) × Int) × (List Int)) :=
  loop (spec_l12Draw_l1) ((1:Int), r_, ([] : List Int))

/-- spec.l12Signed -/
noncomputable def spec_l12Signed_l1 : Int × ((List Int) × Int) × (List Int) → Option ((Int × ((List Int) × Int) × (List Int)) ⊕ (((List Int) × Int) × (List Int))) := fun (i, r_1, out) =>
  cond (decide (i < (out.length:Int))) (
    (spec_l17Rd_pick (2:Int) r_1).bind fun r3_ =>
    cond (r3_.1 == (0:Int)) (
      rq (0 ≤ i ∧ i < out.length) <|
      rq (i64 (0 - (out.getD i.toNat 0))) <|
      rq (0 ≤ i ∧ i < out.length) <|
      rq (i64 (i + (1:Int))) <|
      some (.inl ((i + (1:Int)), r3_.2, (out.set i.toNat (0 - (out.getD i.toNat 0)))))) (
      rq (i64 (i + (1:Int))) <|
      some (.inl ((i + (1:Int)), r3_.2, out)))) (
    some (.inr (r_1, out)))

noncomputable def spec_l12Signed (r_ : (List Int) × Int) : Option (((List Int) × Int) × (List Int)) :=
  (spec_l12Draw r_).bind fun r1_ =>
  loop (spec_l12Signed_l1) ((0:Int), r1_.1, r1_.2)

/-- spec.DrawLiftStep -/
noncomputable def spec_DrawLiftStep_j1 : ((List Int) × Int) × Int × Int × Int × Int × (List (Int × Int)) → Option (Int × Int × Int × Int × (List Int) × (List (Int × Int))) := fun (r_, s_0, s_1, s_2, s_4, s_3) =>
  (spec_l12Signed r_).bind fun r8_ =>
  some (s_0, s_1, s_2, s_4, r8_.2, s_3)

noncomputable def spec_DrawLiftStep (code : List Int) : Option (Int × Int × Int × Int × (List Int) × (List (Int × Int))) :=
  (spec_l17Open code).bind fun r1_ =>
  (spec_DrawClauseOf code).bind fun r2_ =>
  (spec_ClauseOf r2_).bind fun r3_ =>
  (spec_l17Rd_pick (12:Int) r1_).bind fun r4_ =>
  cond (r4_.1 == (0:Int)) (
    (spec_l1Draw (4:Int) r4_.2).bind fun r5_ =>
    spec_DrawLiftStep_j1 (r5_.1, (7:Int), (0:Int), (0:Int), r5_.2.1, r5_.2.2)) (
    cond (r4_.1 == (1:Int)) (
      (spec_l4Step (5:Int) r4_.2).bind fun r6_ =>
      spec_DrawLiftStep_j1 (r6_.1, r6_.2.1, r6_.2.2.1, r6_.2.2.2.1, r6_.2.2.2.2.1, r6_.2.2.2.2.2)) (
      spec_DrawLiftStep_j1 (r4_.2, (7:Int), (0:Int), (0:Int), r3_.2.1, r3_.2.2)))

/-- spec.l1Values -/
noncomputable def spec_l1Values_j1 : ((List Int) × Int) × (List Bool) → Option (((List Int) × Int) × (List Bool)) := fun (r_2, out1) =>
  (spec_l17Rd_pick (40:Int) r_2).bind fun r3_ =>
  cond (r3_.1 == (0:Int)) (
    rq (0 ≤ (11:Int) ∧ (11:Int) ≤ out1.length) <|
    some (r3_.2, (out1.take (11:Int).toNat))) (
    some (r3_.2, out1))

noncomputable def spec_l1Values_l1 : Int × ((List Int) × Int) × (List Bool) → Option ((Int × ((List Int) × Int) × (List Bool)) ⊕ (((List Int) × Int) × (List Bool))) := fun (i, r_1, out) =>
  cond (decide (i < (12:Int))) (
    (spec_l17Rd_pick (2:Int) r_1).bind fun r2_ =>
    rq (out.length + [(r2_.1 == (0:Int))].length ≤ bound) <|
    rq (i64 (i + (1:Int))) <|
    some (.inl ((i + (1:Int)), r2_.2, (out ++ [(r2_.1 == (0:Int))])))) (
    up (spec_l1Values_j1 (r_1, out)))

noncomputable def spec_l1Values (r_ : (List Int) × Int) : Option (((List Int) × Int) × (List Bool)) :=
  loop (spec_l1Values_l1) ((0:Int), r_, ([] : List Bool))

/-- spec.DrawCubeHolds -/
noncomputable def spec_DrawCubeHolds_j1 (r2_ : ((List Int) × Int) × (List Int)) : (List Bool) → Option ((List Int) × (List Bool)) := fun values1 =>
  some (r2_.2, values1)

noncomputable def spec_DrawCubeHolds_l1 (r2_ : ((List Int) × Int) × (List Int)) : Int × ((List Int) × Int) × (List Bool) → Option ((Int × ((List Int) × Int) × (List Bool)) ⊕ ((List Int) × (List Bool))) := fun (i, r_, values) =>
  cond (decide (i < (r2_.2.length:Int))) (
    (spec_l17Rd_pick (6:Int) r_).bind fun r6_ =>
    cond (decide ((0:Int) < r6_.1)) (
      rq (0 ≤ i ∧ i < r2_.2.length) <|
      (spec_l1Abs (r2_.2.getD i.toNat 0)).bind fun r7_ =>
      cond (decide ((1:Int) ≤ r7_)) (
        cond (decide (r7_ ≤ (values.length:Int))) (
          rq (i64 (r7_ - (1:Int))) <|
          rq (0 ≤ i ∧ i < r2_.2.length) <|
          rq (0 ≤ (r7_ - (1:Int)) ∧ (r7_ - (1:Int)) < values.length) <|
          rq (i64 (i + (1:Int))) <|
          some (.inl ((i + (1:Int)), r6_.2, (values.set (r7_ - (1:Int)).toNat (decide ((0:Int) < (r2_.2.getD i.toNat 0))))))) (
          rq (i64 (i + (1:Int))) <|
          some (.inl ((i + (1:Int)), r6_.2, values)))) (
        rq (i64 (i + (1:Int))) <|
        some (.inl ((i + (1:Int)), r6_.2, values)))) (
      up (spec_DrawCubeHolds_j1 r2_ values))) (
    up (spec_DrawCubeHolds_j1 r2_ values))

noncomputable def spec_DrawCubeHolds (code : List Int) : Option ((List Int) × (List Bool)) :=
  (spec_l17Open code).bind fun r1_ =>
  (spec_l12Signed r1_).bind fun r2_ =>
  (spec_l1Values r2_.1).bind fun r3_ =>
  loop (spec_DrawCubeHolds_l1 r2_) ((0:Int), r3_.1, r3_.2)

/-- impl.within -/
noncomputable def impl_within (n : Int) (low : Int) (high : Int) : Option Bool :=
  cond (decide (low ≤ n)) (
    some (decide (n ≤ high))) (
    some false)

/-- impl.isLiteral -/
noncomputable def impl_isLiteral (l : Int) : Option Bool :=
  cond (l != (0:Int)) (
    (impl_within l (-12:Int) (12:Int)).bind fun r1_ =>
    some r1_) (
    some false)

/-- impl.variableOf -/
noncomputable def impl_variableOf (l : Int) : Option Int :=
  rq (i64 (0 - l)) <|
  some (max l (0 - l))

/-- impl.ConstraintValid -/
noncomputable def impl_ConstraintValid_l1 (c_ : (List (Int × Int)) × Int) : Int × Int → Option ((Int × Int) ⊕ Bool) := fun (before, i) =>
  cond (decide (i < (c_.1.length:Int))) (
    rq (0 ≤ i ∧ i < c_.1.length) <|
    (impl_isLiteral (c_.1.getD i.toNat (0, 0)).2).bind fun r1_ =>
    cond (!r1_) (
      some (.inr false)) (
      (impl_variableOf (c_.1.getD i.toNat (0, 0)).2).bind fun r2_ =>
      cond (decide (r2_ ≤ before)) (
        some (.inr false)) (
        (impl_within (c_.1.getD i.toNat (0, 0)).1 (1:Int) (1000:Int)).bind fun r3_ =>
        cond (!r3_) (
          some (.inr false)) (
          (impl_variableOf (c_.1.getD i.toNat (0, 0)).2).bind fun r4_ =>
          rq (i64 (i + (1:Int))) <|
          some (.inl (r4_, (i + (1:Int)))))))) (
    (impl_within c_.2 (0:Int) (20000:Int)).bind fun r5_ =>
    some (.inr r5_))

noncomputable def impl_ConstraintValid (c_ : (List (Int × Int)) × Int) : Option Bool :=
  loop (impl_ConstraintValid_l1 c_) ((0:Int), (0:Int))

/-- impl.isCube -/
noncomputable def impl_isCube_l1 (cube : List Int) : Int → Option (Int ⊕ Bool) := fun i =>
  cond (decide (i < (cube.length:Int))) (
    rq (0 ≤ i ∧ i < cube.length) <|
    (impl_isLiteral (cube.getD i.toNat 0)).bind fun r1_ =>
    cond (!r1_) (
      some (.inr false)) (
      cond (decide ((0:Int) < i)) (
        rq (i64 (i - (1:Int))) <|
        rq (0 ≤ (i - (1:Int)) ∧ (i - (1:Int)) < cube.length) <|
        (impl_variableOf (cube.getD (i - (1:Int)).toNat 0)).bind fun r2_ =>
        (impl_variableOf (cube.getD i.toNat 0)).bind fun r3_ =>
        cond (decide (r3_ ≤ r2_)) (
          some (.inr false)) (
          rq (i64 (i + (1:Int))) <|
          some (.inl (i + (1:Int))))) (
        rq (i64 (i + (1:Int))) <|
        some (.inl (i + (1:Int)))))) (
    some (.inr (decide ((cube.length:Int) ≤ (4:Int)))))

noncomputable def impl_isCube (cube : List Int) : Option Bool :=
  loop (impl_isCube_l1 cube) (0:Int)

/-- impl.negations -/
noncomputable def impl_negations_l1 (lits : List Int) : Int × (List Int) → Option ((Int × (List Int)) ⊕ (List Int)) := fun (i, out) =>
  cond (decide (i < (lits.length:Int))) (
    rq (0 ≤ i ∧ i < lits.length) <|
    rq (i64 (0 - (lits.getD i.toNat 0))) <|
    rq (out.length + [(0 - (lits.getD i.toNat 0))].length ≤ bound) <|
    rq (i64 (i + (1:Int))) <|
    some (.inl ((i + (1:Int)), (out ++ [(0 - (lits.getD i.toNat 0))])))) (
    some (.inr out))

noncomputable def impl_negations (lits : List Int) : Option (List Int) :=
  loop (impl_negations_l1 lits) ((0:Int), ([] : List Int))

/-- slices.Index[[]int,int] -/
noncomputable def slices_Index_int_l1 (s_ : List Int) (v : Int) : Int → Option (Int ⊕ Int) := fun i =>
  cond (decide (i < (s_.length:Int))) (
    rq (0 ≤ i ∧ i < s_.length) <|
    cond (v == (s_.getD i.toNat 0)) (
      some (.inr i)) (
      rq (i64 (i + (1:Int))) <|
      some (.inl (i + (1:Int))))) (
    some (.inr (-1:Int)))

noncomputable def slices_Index_int (s_ : List Int) (v : Int) : Option Int :=
  loop (slices_Index_int_l1 s_ v) (0:Int)

/-- slices.Contains[[]int,int] -/
noncomputable def slices_Contains_int (s_ : List Int) (v : Int) : Option Bool :=
  (slices_Index_int s_ v).bind fun r1_ =>
  some (decide ((0:Int) ≤ r1_))

/-- slices.Clone[[]int,int] -/
noncomputable def slices_Clone_int (s_ : List Int) : Option (List Int) :=
  nt (s_ = []) (
    some ([] : List Int)) (
    rq (([] : List Int).length + s_.length ≤ bound) <|
    some (([] : List Int) ++ s_))

/-- impl.ClauseOf$1 -/
noncomputable def impl_ClauseOf_1 (a : Int) (b : Int) : Option Int :=
  (impl_variableOf a).bind fun r1_ =>
  (impl_variableOf b).bind fun r2_ =>
  rq (i64 (r1_ - r2_)) <|
  some (r1_ - r2_)

/-- slices.Compact[[]int,int] -/
noncomputable def slices_Compact_int_j1 : Int × (List Int) → Option (Int ⊕ (List Int)) := fun (k_2, s_2) =>
  rq (0 ≤ k_2 ∧ k_2 ≤ s_2.length) <|
  rq (0 ≤ k_2 ∧ k_2 ≤ (s_2.take k_2.toNat ++ List.replicate (s_2.length - k_2.toNat) (0:Int)).length) <|
  some (.inr ((s_2.take k_2.toNat ++ List.replicate (s_2.length - k_2.toNat) (0:Int)).take k_2.toNat))

noncomputable def slices_Compact_int_l2 (k_ : Int) : Int × Int × (List Int) → Option ((Int × Int × (List Int)) ⊕ (Int ⊕ (List Int))) := fun (k_1, k2_, s_1) =>
  cond (decide (k2_ < ((s_1.length:Int) - k_))) (
    rq (0 ≤ k2_ ∧ k_ + k2_ < s_1.length) <|
    rq (i64 (k2_ - (1:Int))) <|
    rq (0 ≤ (k2_ - (1:Int)) ∧ k_ + (k2_ - (1:Int)) < s_1.length) <|
    cond ((s_1.getD (k_ + k2_).toNat 0) != (s_1.getD (k_ + (k2_ - (1:Int))).toNat 0)) (
      rq (0 ≤ k2_ ∧ k_ + k2_ < s_1.length) <|
      rq (0 ≤ k_1 ∧ k_1 < s_1.length) <|
      rq (i64 (k_1 + (1:Int))) <|
      rq (i64 (k2_ + (1:Int))) <|
      some (.inl ((k_1 + (1:Int)), (k2_ + (1:Int)), (s_1.set k_1.toNat (s_1.getD (k_ + k2_).toNat 0))))) (
      rq (i64 (k2_ + (1:Int))) <|
      some (.inl (k_1, (k2_ + (1:Int)), s_1)))) (
    up (slices_Compact_int_j1 (k_1, s_1)))

noncomputable def slices_Compact_int_l1 (s_ : List Int) : Int → Option (Int ⊕ (List Int)) := fun k_ =>
  cond (decide (k_ < (s_.length:Int))) (
    rq (0 ≤ k_ ∧ k_ < s_.length) <|
    rq (i64 (k_ - (1:Int))) <|
    rq (0 ≤ (k_ - (1:Int)) ∧ (k_ - (1:Int)) < s_.length) <|
    cond ((s_.getD k_.toNat 0) == (s_.getD (k_ - (1:Int)).toNat 0)) (
      rq (0 ≤ k_ ∧ k_ ≤ s_.length) <|
      loop (slices_Compact_int_l2 k_) (k_, (1:Int), s_)) (
      rq (i64 (k_ + (1:Int))) <|
      some (.inl (k_ + (1:Int))))) (
    some (.inr s_))

noncomputable def slices_Compact_int (s_ : List Int) : Option (List Int) :=
  cond (decide ((s_.length:Int) < (2:Int))) (
    some s_) (
    loop (slices_Compact_int_l1 s_) (1:Int))

/-- impl.ClauseOf -/
noncomputable def impl_ClauseOf_l2 (r5_ : (List Int)) : Int × (List (Int × Int)) → Option ((Int × (List (Int × Int))) ⊕ (Int ⊕ (Bool × Int × (List (Int × Int))))) := fun (i1, c_0) =>
  cond (decide (i1 < (r5_.length:Int))) (
    rq (0 ≤ i1 ∧ i1 < r5_.length) <|
    rq (c_0.length + [((1:Int), (r5_.getD i1.toNat 0))].length ≤ bound) <|
    rq (i64 (i1 + (1:Int))) <|
    some (.inl ((i1 + (1:Int)), (c_0 ++ [((1:Int), (r5_.getD i1.toNat 0))])))) (
    some (.inr (.inr (true, (1:Int), c_0))))

noncomputable def impl_ClauseOf_l1 (lits : List Int) : Int → Option (Int ⊕ (Bool × Int × (List (Int × Int)))) := fun i =>
  cond (decide (i < (lits.length:Int))) (
    rq (0 ≤ i ∧ i < lits.length) <|
    (impl_isLiteral (lits.getD i.toNat 0)).bind fun r1_ =>
    cond (!r1_) (
      some (.inr (false, (0:Int), ([] : List (Int × Int))))) (
      rq (i64 (0 - (lits.getD i.toNat 0))) <|
      (slices_Contains_int lits (0 - (lits.getD i.toNat 0))).bind fun r2_ =>
      cond r2_ (
        some (.inr (false, (0:Int), ([] : List (Int × Int))))) (
        rq (i64 (i + (1:Int))) <|
        some (.inl (i + (1:Int)))))) (
    (slices_Clone_int lits).bind fun r3_ =>
    (sortI impl_ClauseOf_1 r3_).bind fun r4_ =>
    (slices_Compact_int r4_).bind fun r5_ =>
    loop (impl_ClauseOf_l2 r5_) ((0:Int), ([] : List (Int × Int))))

noncomputable def impl_ClauseOf (lits : List Int) : Option (Bool × Int × (List (Int × Int))) :=
  cond (decide ((40:Int) < (lits.length:Int))) (
    some (false, (0:Int), ([] : List (Int × Int)))) (
    loop (impl_ClauseOf_l1 lits) (0:Int))

/-- impl.LiftStep -/
noncomputable def impl_LiftStep_j1 : (List Int) → Option (Bool × Int × Int × Int × Int × (List (Int × Int))) := fun i2 =>
  (impl_ClauseOf i2).bind fun r4_ =>
  cond (!r4_.1) (
    some (false, (0:Int), (0:Int), (0:Int), (0:Int), ([] : List (Int × Int)))) (
    some (true, (7:Int), (0:Int), (0:Int), r4_.2.1, r4_.2.2))

noncomputable def impl_LiftStep_l1 (a0 : Int × Int × Int × (List (Int × Int)) × Int) : Int × (List Int) → Option ((Int × (List Int)) ⊕ (Bool × Int × Int × Int × Int × (List (Int × Int)))) := fun (i, i1) =>
  cond (decide (i < (a0.2.2.2.1.length:Int))) (
    rq (0 ≤ i ∧ i < a0.2.2.2.1.length) <|
    cond ((a0.2.2.2.1.getD i.toNat (0, 0)).1 != (1:Int)) (
      some (.inr (false, (0:Int), (0:Int), (0:Int), (0:Int), ([] : List (Int × Int))))) (
      rq (i1.length + [(a0.2.2.2.1.getD i.toNat (0, 0)).2].length ≤ bound) <|
      rq (i64 (i + (1:Int))) <|
      some (.inl ((i + (1:Int)), (i1 ++ [(a0.2.2.2.1.getD i.toNat (0, 0)).2]))))) (
    up (impl_LiftStep_j1 i1))

noncomputable def impl_LiftStep (a0 : Int × Int × Int × (List (Int × Int)) × Int) (a1 : List Int) : Option (Bool × Int × Int × Int × Int × (List (Int × Int))) :=
  cond (a0.1 != (7:Int)) (
    some (false, (0:Int), (0:Int), (0:Int), (0:Int), ([] : List (Int × Int)))) (
    cond (a0.2.1 != (0:Int)) (
      some (false, (0:Int), (0:Int), (0:Int), (0:Int), ([] : List (Int × Int)))) (
      cond (a0.2.2.1 != (0:Int)) (
        some (false, (0:Int), (0:Int), (0:Int), (0:Int), ([] : List (Int × Int)))) (
        (impl_ConstraintValid a0.2.2.2).bind fun r1_ =>
        cond (!r1_) (
          some (false, (0:Int), (0:Int), (0:Int), (0:Int), ([] : List (Int × Int)))) (
          cond (a0.2.2.2.2 != (1:Int)) (
            some (false, (0:Int), (0:Int), (0:Int), (0:Int), ([] : List (Int × Int)))) (
            (impl_isCube a1).bind fun r2_ =>
            cond (!r2_) (
              some (false, (0:Int), (0:Int), (0:Int), (0:Int), ([] : List (Int × Int)))) (
              (impl_negations a1).bind fun r3_ =>
              loop (impl_LiftStep_l1 a0) ((0:Int), r3_)))))))

/-- spec.l12Vars -/
noncomputable def spec_l12Vars_l1 (vars : List Int) : Int → Option (Int ⊕ Bool) := fun i =>
  cond (decide (i < (vars.length:Int))) (
    rq (0 ≤ i ∧ i < vars.length) <|
    cond (decide ((vars.getD i.toNat 0) < (1:Int))) (
      some (.inr false)) (
      rq (0 ≤ i ∧ i < vars.length) <|
      cond (decide ((12:Int) < (vars.getD i.toNat 0))) (
        some (.inr false)) (
        cond (decide ((0:Int) < i)) (
          rq (i64 (i - (1:Int))) <|
          rq (0 ≤ (i - (1:Int)) ∧ (i - (1:Int)) < vars.length) <|
          rq (0 ≤ i ∧ i < vars.length) <|
          cond (decide ((vars.getD i.toNat 0) ≤ (vars.getD (i - (1:Int)).toNat 0))) (
            some (.inr false)) (
            rq (i64 (i + (1:Int))) <|
            some (.inl (i + (1:Int))))) (
          rq (i64 (i + (1:Int))) <|
          some (.inl (i + (1:Int))))))) (
    some (.inr (decide ((vars.length:Int) ≤ (4:Int)))))

noncomputable def spec_l12Vars (vars : List Int) : Option Bool :=
  loop (spec_l12Vars_l1 vars) (0:Int)

/-- spec.l12Cube -/
noncomputable def spec_l12Cube_j1 : (List Int) → Option Bool := fun vars1 =>
  (spec_l12Vars vars1).bind fun r5_ =>
  some r5_

noncomputable def spec_l12Cube_l1 (cube : List Int) : Int × (List Int) → Option ((Int × (List Int)) ⊕ Bool) := fun (i, vars) =>
  cond (decide (i < (cube.length:Int))) (
    rq (0 ≤ i ∧ i < cube.length) <|
    (spec_l1Lit (cube.getD i.toNat 0)).bind fun r3_ =>
    cond (!r3_) (
      some (.inr false)) (
      rq (0 ≤ i ∧ i < cube.length) <|
      (spec_l1Abs (cube.getD i.toNat 0)).bind fun r4_ =>
      rq (vars.length + [r4_].length ≤ bound) <|
      rq (i64 (i + (1:Int))) <|
      some (.inl ((i + (1:Int)), (vars ++ [r4_]))))) (
    up (spec_l12Cube_j1 vars))

noncomputable def spec_l12Cube (cube : List Int) : Option Bool :=
  loop (spec_l12Cube_l1 cube) ((0:Int), ([] : List Int))

/-- spec.ConstraintValid -/
noncomputable def spec_ConstraintValid_l1 (c_ : (List (Int × Int)) × Int) : Int → Option (Int ⊕ Bool) := fun i =>
  cond (decide (i < (c_.1.length:Int))) (
    rq (0 ≤ i ∧ i < c_.1.length) <|
    (spec_l1Lit (c_.1.getD i.toNat (0, 0)).2).bind fun r4_ =>
    cond (!r4_) (
      some (.inr false)) (
      cond (decide ((c_.1.getD i.toNat (0, 0)).1 < (1:Int))) (
        some (.inr false)) (
        cond (decide ((1000:Int) < (c_.1.getD i.toNat (0, 0)).1)) (
          some (.inr false)) (
          cond (decide ((0:Int) < i)) (
            rq (i64 (i - (1:Int))) <|
            rq (0 ≤ (i - (1:Int)) ∧ (i - (1:Int)) < c_.1.length) <|
            (spec_l1Abs (c_.1.getD (i - (1:Int)).toNat (0, 0)).2).bind fun r5_ =>
            (spec_l1Abs (c_.1.getD i.toNat (0, 0)).2).bind fun r6_ =>
            cond (decide (r6_ ≤ r5_)) (
              some (.inr false)) (
              rq (i64 (i + (1:Int))) <|
              some (.inl (i + (1:Int))))) (
            rq (i64 (i + (1:Int))) <|
            some (.inl (i + (1:Int)))))))) (
    cond (decide ((0:Int) ≤ c_.2)) (
      some (.inr (decide (c_.2 ≤ (20000:Int))))) (
      some (.inr false)))

noncomputable def spec_ConstraintValid (c_ : (List (Int × Int)) × Int) : Option Bool :=
  loop (spec_ConstraintValid_l1 c_) (0:Int)

/-- spec.l12Clause -/
noncomputable def spec_l12Clause_j1 (c_ : (List (Int × Int)) × Int) : (List Int) → Option (Bool × (List Int)) := fun out1 =>
  (spec_ConstraintValid c_).bind fun r2_ =>
  cond r2_ (
    some ((c_.2 == (1:Int)), out1)) (
    some (false, out1))

noncomputable def spec_l12Clause_l1 (c_ : (List (Int × Int)) × Int) : Int × (List Int) → Option ((Int × (List Int)) ⊕ (Bool × (List Int))) := fun (i, out) =>
  cond (decide (i < (c_.1.length:Int))) (
    rq (0 ≤ i ∧ i < c_.1.length) <|
    cond ((c_.1.getD i.toNat (0, 0)).1 != (1:Int)) (
      some (.inr (false, ([] : List Int)))) (
      rq (0 ≤ i ∧ i < c_.1.length) <|
      rq (out.length + [(c_.1.getD i.toNat (0, 0)).2].length ≤ bound) <|
      rq (i64 (i + (1:Int))) <|
      some (.inl ((i + (1:Int)), (out ++ [(c_.1.getD i.toNat (0, 0)).2]))))) (
    up (spec_l12Clause_j1 c_ out))

noncomputable def spec_l12Clause (c_ : (List (Int × Int)) × Int) : Option (Bool × (List Int)) :=
  loop (spec_l12Clause_l1 c_) ((0:Int), ([] : List Int))

/-- spec.l12Lift -/
noncomputable def spec_l12Lift_j1 : (List Int) → Option (Bool × Int × Int × Int × Int × (List (Int × Int))) := fun lits1 =>
  (spec_ClauseOf lits1).bind fun r2_ =>
  cond (!r2_.1) (
    some (false, (0:Int), (0:Int), (0:Int), (0:Int), ([] : List (Int × Int)))) (
    some (true, (7:Int), (0:Int), (0:Int), r2_.2.1, r2_.2.2))

noncomputable def spec_l12Lift_l1 (cube : List Int) : Int × (List Int) → Option ((Int × (List Int)) ⊕ (Bool × Int × Int × Int × Int × (List (Int × Int)))) := fun (i, lits) =>
  cond (decide (i < (cube.length:Int))) (
    rq (0 ≤ i ∧ i < cube.length) <|
    rq (i64 (0 - (cube.getD i.toNat 0))) <|
    rq (lits.length + [(0 - (cube.getD i.toNat 0))].length ≤ bound) <|
    rq (i64 (i + (1:Int))) <|
    some (.inl ((i + (1:Int)), (lits ++ [(0 - (cube.getD i.toNat 0))])))) (
    up (spec_l12Lift_j1 lits))

noncomputable def spec_l12Lift (s_ : Int × Int × Int × (List (Int × Int)) × Int) (cube : List Int) : Option (Bool × Int × Int × Int × Int × (List (Int × Int))) :=
  (spec_l12Clause s_.2.2.2).bind fun r1_ =>
  cond (s_.1 != (7:Int)) (
    some (false, (0:Int), (0:Int), (0:Int), (0:Int), ([] : List (Int × Int)))) (
    cond (s_.2.1 != (0:Int)) (
      some (false, (0:Int), (0:Int), (0:Int), (0:Int), ([] : List (Int × Int)))) (
      cond (s_.2.2.1 != (0:Int)) (
        some (false, (0:Int), (0:Int), (0:Int), (0:Int), ([] : List (Int × Int)))) (
        cond (!r1_.1) (
          some (false, (0:Int), (0:Int), (0:Int), (0:Int), ([] : List (Int × Int)))) (
          loop (spec_l12Lift_l1 cube) ((0:Int), r1_.2)))))

/-- spec.LiftStep -/
noncomputable def spec_LiftStep (s_ : Int × Int × Int × (List (Int × Int)) × Int) (cube : List Int) : Option (Bool × Int × Int × Int × Int × (List (Int × Int))) :=
  (spec_l12Cube cube).bind fun r1_ =>
  cond (!r1_) (
    some (false, (0:Int), (0:Int), (0:Int), (0:Int), ([] : List (Int × Int)))) (
    (spec_l12Lift s_ cube).bind fun r2_ =>
    some (r2_.1, r2_.2.1, r2_.2.2.1, r2_.2.2.2.1, r2_.2.2.2.2.1, r2_.2.2.2.2.2))

/-- slices.Equal[[]impl.Term,impl.Term] -/
noncomputable def slices_Equal_impl_Term_l1 (s1_ : List (Int × Int)) (s2_ : List (Int × Int)) : Int → Option (Int ⊕ Bool) := fun i =>
  cond (decide (i < (s1_.length:Int))) (
    rq (0 ≤ i ∧ i < s1_.length) <|
    rq (0 ≤ i ∧ i < s2_.length) <|
    cond (!((s1_.getD i.toNat (0, 0)).1 == (s2_.getD i.toNat (0, 0)).1 && (s1_.getD i.toNat (0, 0)).2 == (s2_.getD i.toNat (0, 0)).2)) (
      some (.inr false)) (
      rq (i64 (i + (1:Int))) <|
      some (.inl (i + (1:Int))))) (
    some (.inr true))

noncomputable def slices_Equal_impl_Term (s1_ : List (Int × Int)) (s2_ : List (Int × Int)) : Option Bool :=
  cond ((s1_.length:Int) != (s2_.length:Int)) (
    some false) (
    loop (slices_Equal_impl_Term_l1 s1_ s2_) (0:Int))

/-- impl.ConstraintSame -/
noncomputable def impl_ConstraintSame (a : (List (Int × Int)) × Int) (b : (List (Int × Int)) × Int) : Option Bool :=
  cond (a.2 == b.2) (
    (slices_Equal_impl_Term a.1 b.1).bind fun r1_ =>
    some r1_) (
    some false)

/-- impl.ProofSame$1 -/
noncomputable def impl_ProofSame_1 (s_ : Int × Int × Int × (List (Int × Int)) × Int) (t_ : Int × Int × Int × (List (Int × Int)) × Int) : Option Bool :=
  cond (s_.1 == t_.1) (
    cond (s_.2.1 == t_.2.1) (
      cond (s_.2.2.1 == t_.2.2.1) (
        (impl_ConstraintSame s_.2.2.2 t_.2.2.2).bind fun r1_ =>
        some r1_) (
        some false)) (
      some false)) (
    some false)

/-- slices.EqualFunc[[]impl.Step,[]impl.Step,impl.Step,impl.Step] -/
noncomputable def slices_EqualFunc_impl_Step__impl_ProofSame_1_l1 (s1_ : List (Int × Int × Int × (List (Int × Int)) × Int)) (s2_ : List (Int × Int × Int × (List (Int × Int)) × Int)) : Int → Option (Int ⊕ Bool) := fun i =>
  cond (decide (i < (s1_.length:Int))) (
    rq (0 ≤ i ∧ i < s1_.length) <|
    rq (0 ≤ i ∧ i < s2_.length) <|
    (impl_ProofSame_1 (s1_.getD i.toNat (0, (0, (0, ([], 0))))) (s2_.getD i.toNat (0, (0, (0, ([], 0)))))).bind fun r1_ =>
    cond (!r1_) (
      some (.inr false)) (
      rq (i64 (i + (1:Int))) <|
      some (.inl (i + (1:Int))))) (
    some (.inr true))

noncomputable def slices_EqualFunc_impl_Step__impl_ProofSame_1 (s1_ : List (Int × Int × Int × (List (Int × Int)) × Int)) (s2_ : List (Int × Int × Int × (List (Int × Int)) × Int)) : Option Bool :=
  cond ((s1_.length:Int) != (s2_.length:Int)) (
    some false) (
    loop (slices_EqualFunc_impl_Step__impl_ProofSame_1_l1 s1_ s2_) (0:Int))

/-- impl.ProofSame -/
noncomputable def impl_ProofSame (a : List (Int × Int × Int × (List (Int × Int)) × Int)) (b : List (Int × Int × Int × (List (Int × Int)) × Int)) : Option Bool :=
  (slices_EqualFunc_impl_Step__impl_ProofSame_1 a b).bind fun r1_ =>
  some r1_

/-- impl.holds -/
noncomputable def impl_holds (l : Int) (values : List Bool) : Option Bool :=
  (impl_variableOf l).bind fun r1_ =>
  rq (i64 (r1_ - (1:Int))) <|
  rq (0 ≤ (r1_ - (1:Int)) ∧ (r1_ - (1:Int)) < values.length) <|
  some ((values.getD (r1_ - (1:Int)).toNat false) == (decide ((0:Int) < l)))

/-- (impl.Constraint).holds -/
noncomputable def impl_Constraint_holds_l1 (c_ : (List (Int × Int)) × Int) (values : List Bool) : Int × Int → Option ((Int × Int) ⊕ Bool) := fun (sum, i) =>
  cond (decide (i < (c_.1.length:Int))) (
    rq (0 ≤ i ∧ i < c_.1.length) <|
    (impl_holds (c_.1.getD i.toNat (0, 0)).2 values).bind fun r1_ =>
    cond r1_ (
      rq (i64 (sum + (c_.1.getD i.toNat (0, 0)).1)) <|
      rq (i64 (i + (1:Int))) <|
      some (.inl ((sum + (c_.1.getD i.toNat (0, 0)).1), (i + (1:Int))))) (
      rq (i64 (i + (1:Int))) <|
      some (.inl (sum, (i + (1:Int)))))) (
    some (.inr (decide (c_.2 ≤ sum))))

noncomputable def impl_Constraint_holds (c_ : (List (Int × Int)) × Int) (values : List Bool) : Option Bool :=
  loop (impl_Constraint_holds_l1 c_ values) ((0:Int), (0:Int))

/-- impl.EvalConstraint -/
noncomputable def impl_EvalConstraint (c_ : (List (Int × Int)) × Int) (values : List Bool) : Option Bool :=
  (impl_ConstraintValid c_).bind fun r1_ =>
  cond r1_ (
    cond ((values.length:Int) == (12:Int)) (
      (impl_Constraint_holds c_ values).bind fun r2_ =>
      some r2_) (
      some false)) (
    some false)

/-- impl.CubeHolds$1 -/
noncomputable def impl_CubeHolds_1 (l : Int) (o0 : List Bool) : Option Bool :=
  (impl_holds l o0).bind fun r1_ =>
  some (!r1_)

/-- slices.IndexFunc[[]int,int] -/
noncomputable def slices_IndexFunc_int__impl_CubeHolds_1_l1 (s_ : List Int) (o0 : List Bool) : Int → Option (Int ⊕ Int) := fun i =>
  cond (decide (i < (s_.length:Int))) (
    rq (0 ≤ i ∧ i < s_.length) <|
    (impl_CubeHolds_1 (s_.getD i.toNat 0) o0).bind fun r1_ =>
    cond r1_ (
      some (.inr i)) (
      rq (i64 (i + (1:Int))) <|
      some (.inl (i + (1:Int))))) (
    some (.inr (-1:Int)))

noncomputable def slices_IndexFunc_int__impl_CubeHolds_1 (s_ : List Int) (o0 : List Bool) : Option Int :=
  loop (slices_IndexFunc_int__impl_CubeHolds_1_l1 s_ o0) (0:Int)

/-- slices.ContainsFunc[[]int,int] -/
noncomputable def slices_ContainsFunc_int__impl_CubeHolds_1 (s_ : List Int) (o0 : List Bool) : Option Bool :=
  (slices_IndexFunc_int__impl_CubeHolds_1 s_ o0).bind fun r1_ =>
  some (decide ((0:Int) ≤ r1_))

/-- impl.CubeHolds -/
noncomputable def impl_CubeHolds (cube : List Int) (values : List Bool) : Option Bool :=
  (impl_isCube cube).bind fun r1_ =>
  cond r1_ (
    cond ((values.length:Int) == (12:Int)) (
      (slices_ContainsFunc_int__impl_CubeHolds_1 cube values).bind fun r2_ =>
      some (!r2_)) (
      some false)) (
    some false)

/-- laws.FnLiftStep -/
noncomputable def laws_FnLiftStep (a0 : List Int) (a1 : List Int) : Option Bool :=
  cond (decide ((1048576:Int) < (a0.length:Int))) (
    some true) (
    cond (decide ((1048576:Int) < (a1.length:Int))) (
      some true) (
      (spec_DrawLiftStep a0).bind fun r1_ =>
      (spec_DrawCubeHolds a1).bind fun r2_ =>
      (impl_LiftStep (r1_.1, (r1_.2.1, (r1_.2.2.1, (r1_.2.2.2.2.2, r1_.2.2.2.1)))) r1_.2.2.2.2.1).bind fun r3_ =>
      (spec_LiftStep (r1_.1, (r1_.2.1, (r1_.2.2.1, (r1_.2.2.2.2.2, r1_.2.2.2.1)))) r1_.2.2.2.2.1).bind fun r4_ =>
      cond (r3_.1 != r4_.1) (
        cond (r3_.1 == r4_.1) (
          (impl_ProofSame [(r3_.2.1, (r3_.2.2.1, (r3_.2.2.2.1, (r3_.2.2.2.2.2, r3_.2.2.2.2.1))))] [(r4_.2.1, (r4_.2.2.1, (r4_.2.2.2.1, (r4_.2.2.2.2.2, r4_.2.2.2.2.1))))]).bind fun r9_ =>
          some r9_) (
          some false)) (
        (impl_ProofSame [(r3_.2.1, (r3_.2.2.1, (r3_.2.2.2.1, (r3_.2.2.2.2.2, r3_.2.2.2.2.1))))] [(r4_.2.1, (r4_.2.2.1, (r4_.2.2.2.1, (r4_.2.2.2.2.2, r4_.2.2.2.2.1))))]).bind fun r5_ =>
        cond (!r5_) (
          cond (r3_.1 == r4_.1) (
            (impl_ProofSame [(r3_.2.1, (r3_.2.2.1, (r3_.2.2.2.1, (r3_.2.2.2.2.2, r3_.2.2.2.2.1))))] [(r4_.2.1, (r4_.2.2.1, (r4_.2.2.2.1, (r4_.2.2.2.2.2, r4_.2.2.2.2.1))))]).bind fun r8_ =>
            some r8_) (
            some false)) (
          cond (!r3_.1) (
            cond (r3_.1 == r4_.1) (
              (impl_ProofSame [(r3_.2.1, (r3_.2.2.1, (r3_.2.2.2.1, (r3_.2.2.2.2.2, r3_.2.2.2.2.1))))] [(r4_.2.1, (r4_.2.2.1, (r4_.2.2.2.1, (r4_.2.2.2.2.2, r4_.2.2.2.2.1))))]).bind fun r7_ =>
              some r7_) (
              some false)) (
            cond ((r2_.2.length:Int) != (12:Int)) (
              cond (r3_.1 == r4_.1) (
                (impl_ProofSame [(r3_.2.1, (r3_.2.2.1, (r3_.2.2.2.1, (r3_.2.2.2.2.2, r3_.2.2.2.2.1))))] [(r4_.2.1, (r4_.2.2.1, (r4_.2.2.2.1, (r4_.2.2.2.2.2, r4_.2.2.2.2.1))))]).bind fun r6_ =>
                some r6_) (
                some false)) (
              cond (r3_.2.1 == (7:Int)) (
                (impl_EvalConstraint (r3_.2.2.2.2.2, r3_.2.2.2.2.1) r2_.2).bind fun r13_ =>
                (impl_EvalConstraint (r1_.2.2.2.2.2, r1_.2.2.2.1) r2_.2).bind fun r14_ =>
                cond r14_ (
                  some (r13_ == true)) (
                  (impl_CubeHolds r1_.2.2.2.2.1 r2_.2).bind fun r15_ =>
                  some (r13_ == (!r15_)))) (
                some false)))))))

end Go.AE.Y
