/-
  Models of the functions: what each computes, as a Lean function into Option. Definitions alone.
-/
import Derived.Test.YtpeelmjecjbfjaaAEx3
namespace Go.AE.Y
open Go Go.AE
set_option linter.unusedVariables false

/-- spec.l17Open -/
noncomputable def spec_l17Open_j1 : (List Int) → Option (((List Int) × Int)) := fun code1 =>
  some (code1, (0:Int))

noncomputable def spec_l17Open (code : List Int) : Option (((List Int) × Int)) :=
  cond (decide ((2000:Int) < (code.length:Int))) (
    rq (0 ≤ (2000:Int) ∧ (2000:Int) ≤ code.length) <|
    spec_l17Open_j1 (code.take (2000:Int).toNat)) (
    spec_l17Open_j1 code)

/-- (*spec.l17Rd).pick -/
noncomputable def spec_l17Rd_pick (a1 : Int) (o0 : (List Int) × Int) : Option (Int × ((List Int) × Int)) :=
  rq (i64 (o0.2 + (1:Int))) <|
  cond (decide (a1 < (1:Int))) (
    some ((0:Int), (o0.1, (o0.2 + (1:Int))))) (
    cond ((o0.1.length:Int) == (0:Int)) (
      some ((0:Int), (o0.1, (o0.2 + (1:Int))))) (
      rq (i64 ((o0.2 + (1:Int)) - (1:Int))) <|
      cond (decide (((o0.2 + (1:Int)) - (1:Int)) < (o0.1.length:Int))) (
        rq (0 ≤ ((o0.2 + (1:Int)) - (1:Int)) ∧ ((o0.2 + (1:Int)) - (1:Int)) < o0.1.length) <|
        rq (i64 (o0.1.getD ((o0.2 + (1:Int)) - (1:Int)).toNat 0)) <|
        rq (1 ≤ a1 ∧ 0 ≤ (o0.1.getD ((o0.2 + (1:Int)) - (1:Int)).toNat 0)) <|
        some (((o0.1.getD ((o0.2 + (1:Int)) - (1:Int)).toNat 0) % a1), (o0.1, (o0.2 + (1:Int))))) (
        rq (1 ≤ (o0.1.length:Int) ∧ 0 ≤ ((o0.2 + (1:Int)) - (1:Int))) <|
        rq (0 ≤ (((o0.2 + (1:Int)) - (1:Int)) % (o0.1.length:Int)) ∧ (((o0.2 + (1:Int)) - (1:Int)) % (o0.1.length:Int)) < o0.1.length) <|
        rq (i64 (o0.1.getD (((o0.2 + (1:Int)) - (1:Int)) % (o0.1.length:Int)).toNat 0)) <|
        rq (i64 ((o0.1.getD (((o0.2 + (1:Int)) - (1:Int)) % (o0.1.length:Int)).toNat 0) * (131:Int))) <|
        rq (i64 (((o0.2 + (1:Int)) - (1:Int)) * (7:Int))) <|
        rq (i64 ((((o0.2 + (1:Int)) - (1:Int)) * (7:Int)) + (3:Int))) <|
        rq (1 ≤ (o0.1.length:Int) ∧ 0 ≤ ((((o0.2 + (1:Int)) - (1:Int)) * (7:Int)) + (3:Int))) <|
        rq (0 ≤ (((((o0.2 + (1:Int)) - (1:Int)) * (7:Int)) + (3:Int)) % (o0.1.length:Int)) ∧ (((((o0.2 + (1:Int)) - (1:Int)) * (7:Int)) + (3:Int)) % (o0.1.length:Int)) < o0.1.length) <|
        rq (i64 (o0.1.getD (((((o0.2 + (1:Int)) - (1:Int)) * (7:Int)) + (3:Int)) % (o0.1.length:Int)).toNat 0)) <|
        rq (i64 ((o0.1.getD (((((o0.2 + (1:Int)) - (1:Int)) * (7:Int)) + (3:Int)) % (o0.1.length:Int)).toNat 0) * (1117:Int))) <|
        rq (i64 (((o0.1.getD (((o0.2 + (1:Int)) - (1:Int)) % (o0.1.length:Int)).toNat 0) * (131:Int)) + ((o0.1.getD (((((o0.2 + (1:Int)) - (1:Int)) * (7:Int)) + (3:Int)) % (o0.1.length:Int)).toNat 0) * (1117:Int)))) <|
        rq (i64 (((o0.2 + (1:Int)) - (1:Int)) * (29:Int))) <|
        rq (i64 ((((o0.1.getD (((o0.2 + (1:Int)) - (1:Int)) % (o0.1.length:Int)).toNat 0) * (131:Int)) + ((o0.1.getD (((((o0.2 + (1:Int)) - (1:Int)) * (7:Int)) + (3:Int)) % (o0.1.length:Int)).toNat 0) * (1117:Int))) + (((o0.2 + (1:Int)) - (1:Int)) * (29:Int)))) <|
        rq (1 ≤ (o0.1.length:Int) ∧ 0 ≤ ((o0.2 + (1:Int)) - (1:Int))) <|
        rq (i64 ((((o0.2 + (1:Int)) - (1:Int)) / (o0.1.length:Int)) * (53:Int))) <|
        rq (i64 (((((o0.1.getD (((o0.2 + (1:Int)) - (1:Int)) % (o0.1.length:Int)).toNat 0) * (131:Int)) + ((o0.1.getD (((((o0.2 + (1:Int)) - (1:Int)) * (7:Int)) + (3:Int)) % (o0.1.length:Int)).toNat 0) * (1117:Int))) + (((o0.2 + (1:Int)) - (1:Int)) * (29:Int))) + ((((o0.2 + (1:Int)) - (1:Int)) / (o0.1.length:Int)) * (53:Int)))) <|
        rq (1 ≤ (64:Int) ∧ 0 ≤ (((((o0.1.getD (((o0.2 + (1:Int)) - (1:Int)) % (o0.1.length:Int)).toNat 0) * (131:Int)) + ((o0.1.getD (((((o0.2 + (1:Int)) - (1:Int)) * (7:Int)) + (3:Int)) % (o0.1.length:Int)).toNat 0) * (1117:Int))) + (((o0.2 + (1:Int)) - (1:Int)) * (29:Int))) + ((((o0.2 + (1:Int)) - (1:Int)) / (o0.1.length:Int)) * (53:Int)))) <|
        rq (0 ≤ (((((o0.1.getD (((o0.2 + (1:Int)) - (1:Int)) % (o0.1.length:Int)).toNat 0) * (131:Int)) + ((o0.1.getD (((((o0.2 + (1:Int)) - (1:Int)) * (7:Int)) + (3:Int)) % (o0.1.length:Int)).toNat 0) * (1117:Int))) + (((o0.2 + (1:Int)) - (1:Int)) * (29:Int))) + ((((o0.2 + (1:Int)) - (1:Int)) / (o0.1.length:Int)) * (53:Int))) ∧ 0 ≤ ((((((o0.1.getD (((o0.2 + (1:Int)) - (1:Int)) % (o0.1.length:Int)).toNat 0) * (131:Int)) + ((o0.1.getD (((((o0.2 + (1:Int)) - (1:Int)) * (7:Int)) + (3:Int)) % (o0.1.length:Int)).toNat 0) * (1117:Int))) + (((o0.2 + (1:Int)) - (1:Int)) * (29:Int))) + ((((o0.2 + (1:Int)) - (1:Int)) / (o0.1.length:Int)) * (53:Int))) / (64:Int))) <|
        rq (1 ≤ a1 ∧ 0 ≤ (((((((o0.1.getD (((o0.2 + (1:Int)) - (1:Int)) % (o0.1.length:Int)).toNat 0) * (131:Int)) + ((o0.1.getD (((((o0.2 + (1:Int)) - (1:Int)) * (7:Int)) + (3:Int)) % (o0.1.length:Int)).toNat 0) * (1117:Int))) + (((o0.2 + (1:Int)) - (1:Int)) * (29:Int))) + ((((o0.2 + (1:Int)) - (1:Int)) / (o0.1.length:Int)) * (53:Int))).toNat ^^^ ((((((o0.1.getD (((o0.2 + (1:Int)) - (1:Int)) % (o0.1.length:Int)).toNat 0) * (131:Int)) + ((o0.1.getD (((((o0.2 + (1:Int)) - (1:Int)) * (7:Int)) + (3:Int)) % (o0.1.length:Int)).toNat 0) * (1117:Int))) + (((o0.2 + (1:Int)) - (1:Int)) * (29:Int))) + ((((o0.2 + (1:Int)) - (1:Int)) / (o0.1.length:Int)) * (53:Int))) / (64:Int)).toNat : Nat) : Int)) <|
        some (((((((((o0.1.getD (((o0.2 + (1:Int)) - (1:Int)) % (o0.1.length:Int)).toNat 0) * (131:Int)) + ((o0.1.getD (((((o0.2 + (1:Int)) - (1:Int)) * (7:Int)) + (3:Int)) % (o0.1.length:Int)).toNat 0) * (1117:Int))) + (((o0.2 + (1:Int)) - (1:Int)) * (29:Int))) + ((((o0.2 + (1:Int)) - (1:Int)) / (o0.1.length:Int)) * (53:Int))).toNat ^^^ ((((((o0.1.getD (((o0.2 + (1:Int)) - (1:Int)) % (o0.1.length:Int)).toNat 0) * (131:Int)) + ((o0.1.getD (((((o0.2 + (1:Int)) - (1:Int)) * (7:Int)) + (3:Int)) % (o0.1.length:Int)).toNat 0) * (1117:Int))) + (((o0.2 + (1:Int)) - (1:Int)) * (29:Int))) + ((((o0.2 + (1:Int)) - (1:Int)) / (o0.1.length:Int)) * (53:Int))) / (64:Int)).toNat : Nat) : Int) % a1), (o0.1, (o0.2 + (1:Int)))))))

/-- (*spec.l17Rd).num -/
noncomputable def spec_l17Rd_num (list_ : List Int) (r_ : (List Int) × Int) : Option (Int × ((List Int) × Int)) :=
  (spec_l17Rd_pick (list_.length:Int) r_).bind fun r1_ =>
  rq (0 ≤ r1_.1 ∧ r1_.1 < list_.length) <|
  some ((list_.getD r1_.1.toNat 0), r1_.2)

/-- spec.l1Total -/
noncomputable def spec_l1Total_l1 (c_ : (List (Int × Int)) × Int) : Int × Int → Option ((Int × Int) ⊕ Int) := fun (n, i) =>
  cond (decide (i < (c_.1.length:Int))) (
    rq (0 ≤ i ∧ i < c_.1.length) <|
    rq (i64 (n + (c_.1.getD i.toNat (0, 0)).1)) <|
    rq (i64 (i + (1:Int))) <|
    some (.inl ((n + (c_.1.getD i.toNat (0, 0)).1), (i + (1:Int))))) (
    some (.inr n))

noncomputable def spec_l1Total (c_ : (List (Int × Int)) × Int) : Option Int :=
  loop (spec_l1Total_l1 c_) ((0:Int), (0:Int))

/-- spec.l1Draw -/
noncomputable def spec_l1Draw_j1 : ((List Int) × Int) × (List (Int × Int)) → Option (((List Int) × Int) × Int × (List (Int × Int))) := fun (r_4, c_01) =>
  (spec_l1Total (c_01, (0:Int))).bind fun r7_ =>
  (spec_l17Rd_num [(1:Int), (2:Int), (1:Int), (3:Int), (0:Int)] r_4).bind fun r8_ =>
  (spec_l17Rd_pick (4:Int) r8_.2).bind fun r9_ =>
  cond (r9_.1 == (0:Int)) (
    rq (i64 (r7_ + (2:Int))) <|
    (spec_l17Rd_pick (r7_ + (2:Int)) r9_.2).bind fun r10_ =>
    some (r10_.2, r10_.1, c_01)) (
    some (r9_.2, r8_.1, c_01))

noncomputable def spec_l1Draw_j2 (v : Int) (c_0 : List (Int × Int)) : ((List Int) × Int) × (Int × Int) → Option ((Int × ((List Int) × Int) × (List (Int × Int))) ⊕ (((List Int) × Int) × Int × (List (Int × Int)))) := fun (r_3, t_1) =>
  rq (c_0.length + [t_1].length ≤ bound) <|
  rq (i64 (v + (1:Int))) <|
  some (.inl ((v + (1:Int)), r_3, (c_0 ++ [t_1])))

noncomputable def spec_l1Draw_l1 (most : Int) : Int × ((List Int) × Int) × (List (Int × Int)) → Option ((Int × ((List Int) × Int) × (List (Int × Int))) ⊕ (((List Int) × Int) × Int × (List (Int × Int)))) := fun (v, r_2, c_0) =>
  cond (decide (v ≤ most)) (
    (spec_l17Rd_pick (2:Int) r_2).bind fun r4_ =>
    cond (r4_.1 == (0:Int)) (
      (spec_l17Rd_num [(1:Int), (1:Int), (2:Int), (3:Int), (1:Int), (5:Int), (4:Int)] r4_.2).bind fun r5_ =>
      (spec_l17Rd_pick (2:Int) r5_.2).bind fun r6_ =>
      cond (r6_.1 == (0:Int)) (
        rq (i64 (0 - v)) <|
        spec_l1Draw_j2 v c_0 (r6_.2, (r5_.1, (0 - v)))) (
        spec_l1Draw_j2 v c_0 (r6_.2, (r5_.1, v)))) (
      rq (i64 (v + (1:Int))) <|
      some (.inl ((v + (1:Int)), r4_.2, c_0)))) (
    up (spec_l1Draw_j1 (r_2, c_0)))

noncomputable def spec_l1Draw (most : Int) (r_ : (List Int) × Int) : Option (((List Int) × Int) × Int × (List (Int × Int))) :=
  loop (spec_l1Draw_l1 most) ((1:Int), r_, ([] : List (Int × Int)))

/-- spec.l3Problem -/
noncomputable def spec_l3Problem_l1 (r1_ : Int × ((List Int) × Int)) : Int × ((List Int) × Int) × (List ((List (Int × Int)) × Int)) → Option ((Int × ((List Int) × Int) × (List ((List (Int × Int)) × Int))) ⊕ (((List Int) × Int) × (List ((List (Int × Int)) × Int)))) := fun (i, r_1, out) =>
  cond (decide ((0:Int) < i)) (
    (spec_l1Draw r1_.1 r_1).bind fun r4_ =>
    rq (out.length + [(r4_.2.2, r4_.2.1)].length ≤ bound) <|
    rq (i64 (i - (1:Int))) <|
    some (.inl ((i - (1:Int)), r4_.1, (out ++ [(r4_.2.2, r4_.2.1)])))) (
    some (.inr (r_1, out)))

noncomputable def spec_l3Problem (r_ : (List Int) × Int) : Option (((List Int) × Int) × (List ((List (Int × Int)) × Int))) :=
  (spec_l17Rd_num [(4:Int), (5:Int), (3:Int), (6:Int)] r_).bind fun r1_ =>
  (spec_l17Rd_num [(4:Int), (6:Int), (3:Int), (8:Int), (2:Int), (1:Int), (0:Int)] r1_.2).bind fun r2_ =>
  loop (spec_l3Problem_l1 r1_) (r2_.1, r2_.2, ([] : List ((List (Int × Int)) × Int)))

/-- spec.l5Hard -/
noncomputable def spec_l5Hard_l1 : Int × ((List Int) × Int) × (List ((List (Int × Int)) × Int)) → Option ((Int × ((List Int) × Int) × (List ((List (Int × Int)) × Int))) ⊕ (((List Int) × Int) × (List ((List (Int × Int)) × Int)))) := fun (i, r_1, list_) =>
  cond (decide ((0:Int) < i)) (
    (spec_l1Draw (4:Int) r_1).bind fun r6_ =>
    (spec_l1Total (r6_.2.2, r6_.2.1)).bind fun r7_ =>
    rq (1 ≤ (2:Int) ∧ 0 ≤ r7_) <|
    rq (i64 ((r7_ / (2:Int)) + (1:Int))) <|
    (spec_l17Rd_pick ((r7_ / (2:Int)) + (1:Int)) r6_.1).bind fun r8_ =>
    rq (i64 (r7_ - r8_.1)) <|
    rq (list_.length + [(r6_.2.2, (r7_ - r8_.1))].length ≤ bound) <|
    rq (i64 (i - (1:Int))) <|
    some (.inl ((i - (1:Int)), r8_.2, (list_ ++ [(r6_.2.2, (r7_ - r8_.1))])))) (
    some (.inr (r_1, list_)))

noncomputable def spec_l5Hard (r_ : (List Int) × Int) : Option (((List Int) × Int) × (List ((List (Int × Int)) × Int))) :=
  (spec_l3Problem r_).bind fun r1_ =>
  (spec_l17Rd_num [(2:Int), (4:Int), (3:Int), (6:Int), (0:Int)] r1_.1).bind fun r2_ =>
  loop (spec_l5Hard_l1) (r2_.1, r2_.2, r1_.2)

/-- spec.l1Copy -/
noncomputable def spec_l1Copy (c_ : (List (Int × Int)) × Int) : Option (Int × (List (Int × Int))) :=
  rq (([] : List (Int × Int)).length + c_.1.length ≤ bound) <|
  some (c_.2, (([] : List (Int × Int)) ++ c_.1))

/-- spec.l1Mutate -/
noncomputable def spec_l1Mutate (c_ : (List (Int × Int)) × Int) (r_ : (List Int) × Int) : Option (((List Int) × Int) × Int × (List (Int × Int))) :=
  (spec_l1Copy c_).bind fun r1_ =>
  (spec_l17Rd_pick (40:Int) r_).bind fun r2_ =>
  cond (r2_.1 == (0:Int)) (
    (spec_l17Rd_num [(-1:Int), (20001:Int), (9223372036854775807:Int)] r2_.2).bind fun r3_ =>
    some (r3_.2, r3_.1, r1_.2)) (
    cond (r2_.1 == (1:Int)) (
      cond (decide ((0:Int) < (r1_.2.length:Int))) (
        (spec_l17Rd_num [(0:Int), (-1:Int), (1001:Int)] r2_.2).bind fun r5_ =>
        rq (0 ≤ (0:Int) ∧ (0:Int) < r1_.2.length) <|
        some (r5_.2, r1_.1, (r1_.2.set (0:Int).toNat (r5_.1, (r1_.2.getD (0:Int).toNat (0, 0)).2)))) (
        some (r2_.2, r1_.1, r1_.2))) (
      cond (r2_.1 == (2:Int)) (
        cond (decide ((0:Int) < (r1_.2.length:Int))) (
          rq (i64 ((r1_.2.length:Int) - (1:Int))) <|
          (spec_l17Rd_num [(0:Int), (13:Int), (-13:Int), (1:Int), (-9223372036854775808:Int)] r2_.2).bind fun r7_ =>
          rq (0 ≤ ((r1_.2.length:Int) - (1:Int)) ∧ ((r1_.2.length:Int) - (1:Int)) < r1_.2.length) <|
          some (r7_.2, r1_.1, (r1_.2.set ((r1_.2.length:Int) - (1:Int)).toNat ((r1_.2.getD ((r1_.2.length:Int) - (1:Int)).toNat (0, 0)).1, r7_.1)))) (
          some (r2_.2, r1_.1, r1_.2))) (
        cond (r2_.1 == (3:Int)) (
          rq (r1_.2.length + [((1:Int), (1:Int))].length ≤ bound) <|
          some (r2_.2, r1_.1, (r1_.2 ++ [((1:Int), (1:Int))]))) (
          some (r2_.2, r1_.1, r1_.2)))))

/-- spec.l3Mutate -/
noncomputable def spec_l3Mutate (list_ : List ((List (Int × Int)) × Int)) (r_ : (List Int) × Int) : Option (((List Int) × Int) × (List ((List (Int × Int)) × Int))) :=
  rq (([] : List ((List (Int × Int)) × Int)).length + list_.length ≤ bound) <|
  cond (decide ((0:Int) < ((([] : List ((List (Int × Int)) × Int)) ++ list_).length:Int))) (
    (spec_l17Rd_pick (20:Int) r_).bind fun r1_ =>
    cond (r1_.1 == (0:Int)) (
      (spec_l17Rd_pick ((([] : List ((List (Int × Int)) × Int)) ++ list_).length:Int) r1_.2).bind fun r2_ =>
      rq (0 ≤ r2_.1 ∧ r2_.1 < (([] : List ((List (Int × Int)) × Int)) ++ list_).length) <|
      (spec_l1Mutate ((([] : List ((List (Int × Int)) × Int)) ++ list_).getD r2_.1.toNat ([], 0)) r2_.2).bind fun r3_ =>
      (spec_l1Mutate (r3_.2.2, r3_.2.1) r3_.1).bind fun r4_ =>
      (spec_l1Mutate (r4_.2.2, r4_.2.1) r4_.1).bind fun r5_ =>
      rq (0 ≤ r2_.1 ∧ r2_.1 < (([] : List ((List (Int × Int)) × Int)) ++ list_).length) <|
      some (r5_.1, ((([] : List ((List (Int × Int)) × Int)) ++ list_).set r2_.1.toNat (r5_.2.2, r5_.2.1)))) (
      some (r1_.2, (([] : List ((List (Int × Int)) × Int)) ++ list_)))) (
    some (r_, (([] : List ((List (Int × Int)) × Int)) ++ list_)))

/-- spec.l12Draw -/
noncomputable def spec_l12Draw_j1 : ((List Int) × Int) × (List Int) → Option (((List Int) × Int) × (List Int)) := fun (r_2, out1) =>
  (spec_l17Rd_pick (30:Int) r_2).bind fun r3_ =>
  cond (r3_.1 == (0:Int)) (
    (spec_l17Rd_num [(1:Int), (13:Int), (0:Int), (-2:Int)] r3_.2).bind fun r4_ =>
    rq (out1.length + [r4_.1].length ≤ bound) <|
    some (r4_.2, (out1 ++ [r4_.1]))) (
    cond (r3_.1 == (1:Int)) (
      some (r3_.2, [(1:Int), (2:Int), (3:Int), (4:Int), (5:Int)])) (
      cond (r3_.1 == (2:Int)) (
        some (r3_.2, [(2:Int), (4:Int), (6:Int), (12:Int)])) (
        some (r3_.2, out1))))

noncomputable def spec_l12Draw_l1 : Int × ((List Int) × Int) × (List Int) → Option ((Int × ((List Int) × Int) × (List Int)) ⊕ (((List Int) × Int) × (List Int))) := fun (v, r_1, out) =>
  cond (decide (v ≤ (5:Int))) (
    (spec_l17Rd_pick (2:Int) r_1).bind fun r2_ =>
    cond (r2_.1 == (0:Int)) (
      cond (decide ((out.length:Int) < (3:Int))) (
        rq (out.length + [v].length ≤ bound) <|
        rq (i64 (v + (1:Int))) <|
        some (.inl ((v + (1:Int)), r2_.2, (out ++ [v])))) (
        rq (i64 (v + (1:Int))) <|
        some (.inl ((v + (1:Int)), r2_.2, out)))) (
      rq (i64 (v + (1:Int))) <|
      some (.inl ((v + (1:Int)), r2_.2, out)))) (
    up (spec_l12Draw_j1 (r_1, out)))

noncomputable def spec_l12Draw (r_ : (List Int) × Int) : Option (((List Int) × Int) × (List Int)) :=
  loop (spec_l12Draw_l1) ((1:Int), r_, ([] : List Int))

/-- spec.l12Signed -/
noncomputable def spec_l12Signed_l1 : Int × ((List Int) × Int) × (List Int) → Option ((Int × ((List Int) × Int) × (List Int)) ⊕ (((List Int) × Int) × (List Int))) := fun (i, r_1, out) =>
  cond (decide (i < (out.length:Int))) (
    (spec_l17Rd_pick (2:Int) r_1).bind fun r3_ =>
    cond (r3_.1 == (0:Int)) (
      rq (0 ≤ i ∧ i < out.length) <|
      rq (i64 (0 - (out.getD i.toNat 0))) <|
      rq (0 ≤ i ∧ i < out.length) <|
      rq (i64 (i + (1:Int))) <|
      some (.inl ((i + (1:Int)), r3_.2, (out.set i.toNat (0 - (out.getD i.toNat 0)))))) (
      rq (i64 (i + (1:Int))) <|
      some (.inl ((i + (1:Int)), r3_.2, out)))) (
    some (.inr (r_1, out)))

noncomputable def spec_l12Signed (r_ : (List Int) × Int) : Option (((List Int) × Int) × (List Int)) :=
  (spec_l12Draw r_).bind fun r1_ =>
  loop (spec_l12Signed_l1) ((0:Int), r1_.1, r1_.2)

/-- spec.DrawCubeProblem -/
noncomputable def spec_DrawCubeProblem (code : List Int) : Option ((List ((List (Int × Int)) × Int)) × (List Int)) :=
  (spec_l17Open code).bind fun r1_ =>
  (spec_l5Hard r1_).bind fun r2_ =>
  (spec_l3Mutate r2_.2 r2_.1).bind fun r3_ =>
  (spec_l12Signed r3_.1).bind fun r4_ =>
  some (r3_.2, r4_.2)

/-- impl.within -/
noncomputable def impl_within (n : Int) (low : Int) (high : Int) : Option Bool :=
  cond (decide (low ≤ n)) (
    some (decide (n ≤ high))) (
    some false)

/-- impl.isLiteral -/
noncomputable def impl_isLiteral (l : Int) : Option Bool :=
  cond (l != (0:Int)) (
    (impl_within l (-12:Int) (12:Int)).bind fun r1_ =>
    some r1_) (
    some false)

/-- impl.variableOf -/
noncomputable def impl_variableOf (l : Int) : Option Int :=
  rq (i64 (0 - l)) <|
  some (max l (0 - l))

/-- impl.ConstraintValid -/
noncomputable def impl_ConstraintValid_l1 (c_ : (List (Int × Int)) × Int) : Int × Int → Option ((Int × Int) ⊕ Bool) := fun (before, i) =>
  cond (decide (i < (c_.1.length:Int))) (
    rq (0 ≤ i ∧ i < c_.1.length) <|
    (impl_isLiteral (c_.1.getD i.toNat (0, 0)).2).bind fun r1_ =>
    cond (!r1_) (
      some (.inr false)) (
      (impl_variableOf (c_.1.getD i.toNat (0, 0)).2).bind fun r2_ =>
      cond (decide (r2_ ≤ before)) (
        some (.inr false)) (
        (impl_within (c_.1.getD i.toNat (0, 0)).1 (1:Int) (1000:Int)).bind fun r3_ =>
        cond (!r3_) (
          some (.inr false)) (
          (impl_variableOf (c_.1.getD i.toNat (0, 0)).2).bind fun r4_ =>
          rq (i64 (i + (1:Int))) <|
          some (.inl (r4_, (i + (1:Int)))))))) (
    (impl_within c_.2 (0:Int) (20000:Int)).bind fun r5_ =>
    some (.inr r5_))

noncomputable def impl_ConstraintValid (c_ : (List (Int × Int)) × Int) : Option Bool :=
  loop (impl_ConstraintValid_l1 c_) ((0:Int), (0:Int))

/-- impl.allValid$1 -/
noncomputable def impl_allValid_1 (c_ : (List (Int × Int)) × Int) : Option Bool :=
  (impl_ConstraintValid c_).bind fun r1_ =>
  some (!r1_)

/-- slices.IndexFunc[[]impl.Constraint,impl.Constraint] -/
noncomputable def slices_IndexFunc_impl_Constraint__impl_allValid_1_l1 (s_ : List ((List (Int × Int)) × Int)) : Int → Option (Int ⊕ Int) := fun i =>
  cond (decide (i < (s_.length:Int))) (
    rq (0 ≤ i ∧ i < s_.length) <|
    (impl_allValid_1 (s_.getD i.toNat ([], 0))).bind fun r1_ =>
    cond r1_ (
      some (.inr i)) (
      rq (i64 (i + (1:Int))) <|
      some (.inl (i + (1:Int))))) (
    some (.inr (-1:Int)))

noncomputable def slices_IndexFunc_impl_Constraint__impl_allValid_1 (s_ : List ((List (Int × Int)) × Int)) : Option Int :=
  loop (slices_IndexFunc_impl_Constraint__impl_allValid_1_l1 s_) (0:Int)

/-- slices.ContainsFunc[[]impl.Constraint,impl.Constraint] -/
noncomputable def slices_ContainsFunc_impl_Constraint__impl_allValid_1 (s_ : List ((List (Int × Int)) × Int)) : Option Bool :=
  (slices_IndexFunc_impl_Constraint__impl_allValid_1 s_).bind fun r1_ =>
  some (decide ((0:Int) ≤ r1_))

/-- impl.allValid -/
noncomputable def impl_allValid (list_ : List ((List (Int × Int)) × Int)) : Option Bool :=
  (slices_ContainsFunc_impl_Constraint__impl_allValid_1 list_).bind fun r1_ =>
  some (!r1_)

/-- impl.ProblemValid -/
noncomputable def impl_ProblemValid (list_ : List ((List (Int × Int)) × Int)) : Option Bool :=
  cond (decide ((list_.length:Int) ≤ (400:Int))) (
    (impl_allValid list_).bind fun r1_ =>
    some r1_) (
    some false)

/-- impl.isCube -/
noncomputable def impl_isCube_l1 (cube : List Int) : Int → Option (Int ⊕ Bool) := fun i =>
  cond (decide (i < (cube.length:Int))) (
    rq (0 ≤ i ∧ i < cube.length) <|
    (impl_isLiteral (cube.getD i.toNat 0)).bind fun r1_ =>
    cond (!r1_) (
      some (.inr false)) (
      cond (decide ((0:Int) < i)) (
        rq (i64 (i - (1:Int))) <|
        rq (0 ≤ (i - (1:Int)) ∧ (i - (1:Int)) < cube.length) <|
        (impl_variableOf (cube.getD (i - (1:Int)).toNat 0)).bind fun r2_ =>
        (impl_variableOf (cube.getD i.toNat 0)).bind fun r3_ =>
        cond (decide (r3_ ≤ r2_)) (
          some (.inr false)) (
          rq (i64 (i + (1:Int))) <|
          some (.inl (i + (1:Int))))) (
        rq (i64 (i + (1:Int))) <|
        some (.inl (i + (1:Int)))))) (
    some (.inr (decide ((cube.length:Int) ≤ (4:Int)))))

noncomputable def impl_isCube (cube : List Int) : Option Bool :=
  loop (impl_isCube_l1 cube) (0:Int)

/-- slices.Clone[[]impl.Term,impl.Term] -/
noncomputable def slices_Clone_impl_Term (s_ : List (Int × Int)) : Option ((List (Int × Int))) :=
  nt (s_ = []) (
    some ([] : List (Int × Int))) (
    rq (([] : List (Int × Int)).length + s_.length ≤ bound) <|
    some (([] : List (Int × Int)) ++ s_))

/-- (impl.Constraint).own -/
noncomputable def impl_Constraint_own (c_ : (List (Int × Int)) × Int) : Option (Int × (List (Int × Int))) :=
  (slices_Clone_impl_Term c_.1).bind fun r1_ =>
  some (c_.2, r1_)

/-- impl.ownAll -/
noncomputable def impl_ownAll_l1 (list_ : List ((List (Int × Int)) × Int)) : Int × (List ((List (Int × Int)) × Int)) → Option ((Int × (List ((List (Int × Int)) × Int))) ⊕ ((List ((List (Int × Int)) × Int)))) := fun (i, out) =>
  cond (decide (i < (list_.length:Int))) (
    rq (0 ≤ i ∧ i < list_.length) <|
    (impl_Constraint_own (list_.getD i.toNat ([], 0))).bind fun r2_ =>
    rq (out.length + [(r2_.2, r2_.1)].length ≤ bound) <|
    rq (i64 (i + (1:Int))) <|
    some (.inl ((i + (1:Int)), (out ++ [(r2_.2, r2_.1)])))) (
    some (.inr out))

noncomputable def impl_ownAll (list_ : List ((List (Int × Int)) × Int)) : Option ((List ((List (Int × Int)) × Int))) :=
  loop (impl_ownAll_l1 list_) ((0:Int), ([] : List ((List (Int × Int)) × Int)))

/-- impl.CubeProblem -/
noncomputable def impl_CubeProblem_l1 (cube : List Int) : Int × (List ((List (Int × Int)) × Int)) → Option ((Int × (List ((List (Int × Int)) × Int))) ⊕ (Bool × (List ((List (Int × Int)) × Int)))) := fun (i, out) =>
  cond (decide (i < (cube.length:Int))) (
    rq (0 ≤ i ∧ i < cube.length) <|
    rq (out.length + [([((1:Int), (cube.getD i.toNat 0))], (1:Int))].length ≤ bound) <|
    rq (i64 (i + (1:Int))) <|
    some (.inl ((i + (1:Int)), (out ++ [([((1:Int), (cube.getD i.toNat 0))], (1:Int))])))) (
    some (.inr (true, out)))

noncomputable def impl_CubeProblem (list_ : List ((List (Int × Int)) × Int)) (cube : List Int) : Option (Bool × (List ((List (Int × Int)) × Int))) :=
  (impl_ProblemValid list_).bind fun r1_ =>
  cond (!r1_) (
    some (false, ([] : List ((List (Int × Int)) × Int)))) (
    (impl_isCube cube).bind fun r2_ =>
    cond (!r2_) (
      some (false, ([] : List ((List (Int × Int)) × Int)))) (
      rq (i64 ((list_.length:Int) + (cube.length:Int))) <|
      cond (decide ((400:Int) < ((list_.length:Int) + (cube.length:Int)))) (
        some (false, ([] : List ((List (Int × Int)) × Int)))) (
        (impl_ownAll list_).bind fun r3_ =>
        loop (impl_CubeProblem_l1 cube) ((0:Int), r3_))))

/-- spec.l1Lit -/
noncomputable def spec_l1Lit (n : Int) : Option Bool :=
  cond (n != (0:Int)) (
    cond (decide ((-12:Int) ≤ n)) (
      some (decide (n ≤ (12:Int)))) (
      some false)) (
    some false)

/-- spec.l1Abs -/
noncomputable def spec_l1Abs (n : Int) : Option Int :=
  cond (decide (n < (0:Int))) (
    rq (i64 (0 - n)) <|
    some (0 - n)) (
    some n)

/-- spec.ConstraintValid -/
noncomputable def spec_ConstraintValid_l1 (c_ : (List (Int × Int)) × Int) : Int → Option (Int ⊕ Bool) := fun i =>
  cond (decide (i < (c_.1.length:Int))) (
    rq (0 ≤ i ∧ i < c_.1.length) <|
    (spec_l1Lit (c_.1.getD i.toNat (0, 0)).2).bind fun r4_ =>
    cond (!r4_) (
      some (.inr false)) (
      cond (decide ((c_.1.getD i.toNat (0, 0)).1 < (1:Int))) (
        some (.inr false)) (
        cond (decide ((1000:Int) < (c_.1.getD i.toNat (0, 0)).1)) (
          some (.inr false)) (
          cond (decide ((0:Int) < i)) (
            rq (i64 (i - (1:Int))) <|
            rq (0 ≤ (i - (1:Int)) ∧ (i - (1:Int)) < c_.1.length) <|
            (spec_l1Abs (c_.1.getD (i - (1:Int)).toNat (0, 0)).2).bind fun r5_ =>
            (spec_l1Abs (c_.1.getD i.toNat (0, 0)).2).bind fun r6_ =>
            cond (decide (r6_ ≤ r5_)) (
              some (.inr false)) (
              rq (i64 (i + (1:Int))) <|
              some (.inl (i + (1:Int))))) (
            rq (i64 (i + (1:Int))) <|
            some (.inl (i + (1:Int)))))))) (
    cond (decide ((0:Int) ≤ c_.2)) (
      some (.inr (decide (c_.2 ≤ (20000:Int))))) (
      some (.inr false)))

noncomputable def spec_ConstraintValid (c_ : (List (Int × Int)) × Int) : Option Bool :=
  loop (spec_ConstraintValid_l1 c_) (0:Int)

/-- spec.ProblemValid -/
noncomputable def spec_ProblemValid_l1 (list_ : List ((List (Int × Int)) × Int)) : Int → Option (Int ⊕ Bool) := fun i =>
  cond (decide (i < (list_.length:Int))) (
    rq (0 ≤ i ∧ i < list_.length) <|
    (spec_ConstraintValid (list_.getD i.toNat ([], 0))).bind fun r1_ =>
    cond (!r1_) (
      some (.inr false)) (
      rq (i64 (i + (1:Int))) <|
      some (.inl (i + (1:Int))))) (
    some (.inr (decide ((list_.length:Int) ≤ (400:Int)))))

noncomputable def spec_ProblemValid (list_ : List ((List (Int × Int)) × Int)) : Option Bool :=
  loop (spec_ProblemValid_l1 list_) (0:Int)

/-- spec.l12Vars -/
noncomputable def spec_l12Vars_l1 (vars : List Int) : Int → Option (Int ⊕ Bool) := fun i =>
  cond (decide (i < (vars.length:Int))) (
    rq (0 ≤ i ∧ i < vars.length) <|
    cond (decide ((vars.getD i.toNat 0) < (1:Int))) (
      some (.inr false)) (
      rq (0 ≤ i ∧ i < vars.length) <|
      cond (decide ((12:Int) < (vars.getD i.toNat 0))) (
        some (.inr false)) (
        cond (decide ((0:Int) < i)) (
          rq (i64 (i - (1:Int))) <|
          rq (0 ≤ (i - (1:Int)) ∧ (i - (1:Int)) < vars.length) <|
          rq (0 ≤ i ∧ i < vars.length) <|
          cond (decide ((vars.getD i.toNat 0) ≤ (vars.getD (i - (1:Int)).toNat 0))) (
            some (.inr false)) (
            rq (i64 (i + (1:Int))) <|
            some (.inl (i + (1:Int))))) (
          rq (i64 (i + (1:Int))) <|
          some (.inl (i + (1:Int))))))) (
    some (.inr (decide ((vars.length:Int) ≤ (4:Int)))))

noncomputable def spec_l12Vars (vars : List Int) : Option Bool :=
  loop (spec_l12Vars_l1 vars) (0:Int)

/-- spec.l12Cube -/
noncomputable def spec_l12Cube_j1 : (List Int) → Option Bool := fun vars1 =>
  (spec_l12Vars vars1).bind fun r5_ =>
  some r5_

noncomputable def spec_l12Cube_l1 (cube : List Int) : Int × (List Int) → Option ((Int × (List Int)) ⊕ Bool) := fun (i, vars) =>
  cond (decide (i < (cube.length:Int))) (
    rq (0 ≤ i ∧ i < cube.length) <|
    (spec_l1Lit (cube.getD i.toNat 0)).bind fun r3_ =>
    cond (!r3_) (
      some (.inr false)) (
      rq (0 ≤ i ∧ i < cube.length) <|
      (spec_l1Abs (cube.getD i.toNat 0)).bind fun r4_ =>
      rq (vars.length + [r4_].length ≤ bound) <|
      rq (i64 (i + (1:Int))) <|
      some (.inl ((i + (1:Int)), (vars ++ [r4_]))))) (
    up (spec_l12Cube_j1 vars))

noncomputable def spec_l12Cube (cube : List Int) : Option Bool :=
  loop (spec_l12Cube_l1 cube) ((0:Int), ([] : List Int))

/-- spec.l12Under -/
noncomputable def spec_l12Under_l1 (cube : List Int) : Int × (List ((List (Int × Int)) × Int)) → Option ((Int × (List ((List (Int × Int)) × Int))) ⊕ ((List ((List (Int × Int)) × Int)))) := fun (i1, out2) =>
  cond (decide (i1 < (cube.length:Int))) (
    rq (0 ≤ i1 ∧ i1 < cube.length) <|
    rq (out2.length + [([((1:Int), (cube.getD i1.toNat 0))], (1:Int))].length ≤ bound) <|
    rq (i64 (i1 + (1:Int))) <|
    some (.inl ((i1 + (1:Int)), (out2 ++ [([((1:Int), (cube.getD i1.toNat 0))], (1:Int))])))) (
    some (.inr out2))

noncomputable def spec_l12Under_j1 (cube : List Int) : (List ((List (Int × Int)) × Int)) → Option ((List ((List (Int × Int)) × Int))) := fun out1 =>
  loop (spec_l12Under_l1 cube) ((0:Int), out1)

noncomputable def spec_l12Under_l2 (list_ : List ((List (Int × Int)) × Int)) (cube : List Int) : Int × (List ((List (Int × Int)) × Int)) → Option ((Int × (List ((List (Int × Int)) × Int))) ⊕ ((List ((List (Int × Int)) × Int)))) := fun (i, out) =>
  cond (decide (i < (list_.length:Int))) (
    rq (0 ≤ i ∧ i < list_.length) <|
    (spec_l1Copy (list_.getD i.toNat ([], 0))).bind fun r2_ =>
    rq (out.length + [(r2_.2, r2_.1)].length ≤ bound) <|
    rq (i64 (i + (1:Int))) <|
    some (.inl ((i + (1:Int)), (out ++ [(r2_.2, r2_.1)])))) (
    up (spec_l12Under_j1 cube out))

noncomputable def spec_l12Under (list_ : List ((List (Int × Int)) × Int)) (cube : List Int) : Option ((List ((List (Int × Int)) × Int))) :=
  loop (spec_l12Under_l2 list_ cube) ((0:Int), ([] : List ((List (Int × Int)) × Int)))

/-- spec.CubeProblem -/
noncomputable def spec_CubeProblem (list_ : List ((List (Int × Int)) × Int)) (cube : List Int) : Option (Bool × (List ((List (Int × Int)) × Int))) :=
  (spec_ProblemValid list_).bind fun r1_ =>
  cond (!r1_) (
    some (false, ([] : List ((List (Int × Int)) × Int)))) (
    (spec_l12Cube cube).bind fun r2_ =>
    cond (!r2_) (
      some (false, ([] : List ((List (Int × Int)) × Int)))) (
      rq (i64 ((list_.length:Int) + (cube.length:Int))) <|
      cond (decide ((400:Int) < ((list_.length:Int) + (cube.length:Int)))) (
        some (false, ([] : List ((List (Int × Int)) × Int)))) (
        (spec_l12Under list_ cube).bind fun r3_ =>
        some (true, r3_))))

/-- slices.Equal[[]impl.Term,impl.Term] -/
noncomputable def slices_Equal_impl_Term_l1 (s1_ : List (Int × Int)) (s2_ : List (Int × Int)) : Int → Option (Int ⊕ Bool) := fun i =>
  cond (decide (i < (s1_.length:Int))) (
    rq (0 ≤ i ∧ i < s1_.length) <|
    rq (0 ≤ i ∧ i < s2_.length) <|
    cond (!((s1_.getD i.toNat (0, 0)).1 == (s2_.getD i.toNat (0, 0)).1 && (s1_.getD i.toNat (0, 0)).2 == (s2_.getD i.toNat (0, 0)).2)) (
      some (.inr false)) (
      rq (i64 (i + (1:Int))) <|
      some (.inl (i + (1:Int))))) (
    some (.inr true))

noncomputable def slices_Equal_impl_Term (s1_ : List (Int × Int)) (s2_ : List (Int × Int)) : Option Bool :=
  cond ((s1_.length:Int) != (s2_.length:Int)) (
    some false) (
    loop (slices_Equal_impl_Term_l1 s1_ s2_) (0:Int))

/-- impl.ConstraintSame -/
noncomputable def impl_ConstraintSame (a : (List (Int × Int)) × Int) (b : (List (Int × Int)) × Int) : Option Bool :=
  cond (a.2 == b.2) (
    (slices_Equal_impl_Term a.1 b.1).bind fun r1_ =>
    some r1_) (
    some false)

/-- laws.cpProblem -/
noncomputable def laws_cpProblem_l1 (a : List ((List (Int × Int)) × Int)) (b : List ((List (Int × Int)) × Int)) : Int → Option (Int ⊕ Bool) := fun i =>
  cond (decide (i < (a.length:Int))) (
    rq (0 ≤ i ∧ i < a.length) <|
    rq (0 ≤ i ∧ i < b.length) <|
    (impl_ConstraintSame (a.getD i.toNat ([], 0)) (b.getD i.toNat ([], 0))).bind fun r2_ =>
    cond (!r2_) (
      some (.inr false)) (
      rq (i64 (i + (1:Int))) <|
      some (.inl (i + (1:Int))))) (
    some (.inr true))

noncomputable def laws_cpProblem (a : List ((List (Int × Int)) × Int)) (b : List ((List (Int × Int)) × Int)) : Option Bool :=
  cond ((a.length:Int) != (b.length:Int)) (
    some false) (
    loop (laws_cpProblem_l1 a b) (0:Int))

/-- impl.isFuel -/
noncomputable def impl_isFuel (fuel : Int) : Option Bool :=
  (impl_within fuel (0:Int) (2000:Int)).bind fun r1_ =>
  some r1_

/-- slices.Clone[[]impl.Constraint,impl.Constraint] -/
noncomputable def slices_Clone_impl_Constraint (s_ : List ((List (Int × Int)) × Int)) : Option ((List ((List (Int × Int)) × Int))) :=
  nt (s_ = []) (
    some ([] : List ((List (Int × Int)) × Int))) (
    rq (([] : List ((List (Int × Int)) × Int)).length + s_.length ≤ bound) <|
    some (([] : List ((List (Int × Int)) × Int)) ++ s_))

/-- slices.Clone[[]int,int] -/
noncomputable def slices_Clone_int (s_ : List Int) : Option (List Int) :=
  nt (s_ = []) (
    some ([] : List Int)) (
    rq (([] : List Int).length + s_.length ≤ bound) <|
    some (([] : List Int) ++ s_))

/-- impl.under -/
noncomputable def impl_under (l : Int) (p : List Int) : Option Int :=
  cond (decide (l < (0:Int))) (
    rq (i64 (0 - l)) <|
    rq (i64 ((0 - l) - (1:Int))) <|
    rq (0 ≤ ((0 - l) - (1:Int)) ∧ ((0 - l) - (1:Int)) < p.length) <|
    rq (i64 (0 - (p.getD ((0 - l) - (1:Int)).toNat 0))) <|
    some (0 - (p.getD ((0 - l) - (1:Int)).toNat 0))) (
    rq (i64 (l - (1:Int))) <|
    rq (0 ≤ (l - (1:Int)) ∧ (l - (1:Int)) < p.length) <|
    some (p.getD (l - (1:Int)).toNat 0))

/-- (impl.Constraint).slack -/
noncomputable def impl_Constraint_slack_l1 (c_ : (List (Int × Int)) × Int) (p : List Int) : Int × Int → Option ((Int × Int) ⊕ Int) := fun (out, i) =>
  cond (decide (i < (c_.1.length:Int))) (
    rq (0 ≤ i ∧ i < c_.1.length) <|
    (impl_under (c_.1.getD i.toNat (0, 0)).2 p).bind fun r1_ =>
    cond (decide ((0:Int) ≤ r1_)) (
      rq (i64 (out + (c_.1.getD i.toNat (0, 0)).1)) <|
      rq (i64 (i + (1:Int))) <|
      some (.inl ((out + (c_.1.getD i.toNat (0, 0)).1), (i + (1:Int))))) (
      rq (i64 (i + (1:Int))) <|
      some (.inl (out, (i + (1:Int)))))) (
    some (.inr out))

noncomputable def impl_Constraint_slack (c_ : (List (Int × Int)) × Int) (p : List Int) : Option Int :=
  rq (i64 (0 - c_.2)) <|
  loop (impl_Constraint_slack_l1 c_ p) ((0 - c_.2), (0:Int))

/-- (impl.Constraint).implied -/
noncomputable def impl_Constraint_implied_l1 (c_ : (List (Int × Int)) × Int) (p : List Int) (r1_ : Int) : Int × (List Int) → Option ((Int × (List Int)) ⊕ (List Int)) := fun (i, out) =>
  cond (decide (i < (c_.1.length:Int))) (
    rq (0 ≤ i ∧ i < c_.1.length) <|
    (impl_under (c_.1.getD i.toNat (0, 0)).2 p).bind fun r3_ =>
    cond (r3_ == (0:Int)) (
      cond (decide (r1_ < (c_.1.getD i.toNat (0, 0)).1)) (
        rq (out.length + [(c_.1.getD i.toNat (0, 0)).2].length ≤ bound) <|
        rq (i64 (i + (1:Int))) <|
        some (.inl ((i + (1:Int)), (out ++ [(c_.1.getD i.toNat (0, 0)).2])))) (
        rq (i64 (i + (1:Int))) <|
        some (.inl ((i + (1:Int)), out)))) (
      rq (i64 (i + (1:Int))) <|
      some (.inl ((i + (1:Int)), out)))) (
    some (.inr out))

noncomputable def impl_Constraint_implied (c_ : (List (Int × Int)) × Int) (p : List Int) : Option (List Int) :=
  (impl_Constraint_slack c_ p).bind fun r1_ =>
  loop (impl_Constraint_implied_l1 c_ p r1_) ((0:Int), ([] : List Int))

/-- impl.propagate -/
noncomputable def impl_propagate_l3 (i3 : Int) (r9_ : (List Int)) : Bool × Int × (List Int) → Option ((Bool × Int × (List Int)) ⊕ ((Bool × Int × (List Int)) ⊕ ((Bool × (List Int)) ⊕ (Int × (List Int))))) := fun (made6, i5, out6) =>
  cond (decide (i5 < (r9_.length:Int))) (
    rq (0 ≤ i5 ∧ i5 < r9_.length) <|
    cond (decide ((0:Int) < (r9_.getD i5.toNat 0))) (
      rq (i64 ((r9_.getD i5.toNat 0) - (1:Int))) <|
      rq (0 ≤ ((r9_.getD i5.toNat 0) - (1:Int)) ∧ ((r9_.getD i5.toNat 0) - (1:Int)) < out6.length) <|
      rq (i64 (i5 + (1:Int))) <|
      some (.inl (true, (i5 + (1:Int)), (out6.set ((r9_.getD i5.toNat 0) - (1:Int)).toNat (1:Int))))) (
      rq (i64 (0 - (r9_.getD i5.toNat 0))) <|
      rq (i64 ((0 - (r9_.getD i5.toNat 0)) - (1:Int))) <|
      rq (0 ≤ ((0 - (r9_.getD i5.toNat 0)) - (1:Int)) ∧ ((0 - (r9_.getD i5.toNat 0)) - (1:Int)) < out6.length) <|
      rq (i64 (i5 + (1:Int))) <|
      some (.inl (true, (i5 + (1:Int)), (out6.set ((0 - (r9_.getD i5.toNat 0)) - (1:Int)).toNat (-1:Int)))))) (
    rq (i64 (i3 + (1:Int))) <|
    some (.inr (.inl (made6, (i3 + (1:Int)), out6))))

noncomputable def impl_propagate_l2 (list_ : List ((List (Int × Int)) × Int)) : Bool × Int × (List Int) → Option ((Bool × Int × (List Int)) ⊕ ((Bool × (List Int)) ⊕ (Int × (List Int)))) := fun (made4, i3, out5) =>
  cond (decide (i3 < (list_.length:Int))) (
    rq (0 ≤ i3 ∧ i3 < list_.length) <|
    (impl_Constraint_slack (list_.getD i3.toNat ([], 0)) out5).bind fun r8_ =>
    cond (decide (r8_ < (0:Int))) (
      some (.inr (.inr (i3, out5)))) (
      (impl_Constraint_implied (list_.getD i3.toNat ([], 0)) out5).bind fun r9_ =>
      loop (impl_propagate_l3 i3 r9_) (made4, (0:Int), out5))) (
    some (.inr (.inl (made4, out5))))

noncomputable def impl_propagate_l1 (list_ : List ((List (Int × Int)) × Int)) : Bool × (List Int) → Option ((Bool × (List Int)) ⊕ (Int × (List Int))) := fun (made, out3) =>
  cond made (
    loop (impl_propagate_l2 list_) (false, (0:Int), out3)) (
    some (.inr ((-1:Int), out3)))

noncomputable def impl_propagate (list_ : List ((List (Int × Int)) × Int)) (p : List Int) : Option (Int × (List Int)) :=
  (slices_Clone_int p).bind fun r1_ =>
  loop (impl_propagate_l1 list_) (true, r1_)

/-- impl.valuesOf -/
noncomputable def impl_valuesOf_j1 : (List Bool) → Option (Int × Bool × (List Bool)) := fun out1 =>
  some ((0:Int), true, out1)

noncomputable def impl_valuesOf_l1 (p : List Int) : Int × (List Bool) → Option ((Int × (List Bool)) ⊕ (Int × Bool × (List Bool))) := fun (i, out) =>
  cond (decide (i < (p.length:Int))) (
    rq (0 ≤ i ∧ i < p.length) <|
    cond ((p.getD i.toNat 0) == (0:Int)) (
      rq (i64 (i + (1:Int))) <|
      some (.inr ((i + (1:Int)), false, ([] : List Bool)))) (
      rq (out.length + [(decide ((0:Int) < (p.getD i.toNat 0)))].length ≤ bound) <|
      rq (i64 (i + (1:Int))) <|
      some (.inl ((i + (1:Int)), (out ++ [(decide ((0:Int) < (p.getD i.toNat 0)))]))))) (
    up (impl_valuesOf_j1 out))

noncomputable def impl_valuesOf (p : List Int) : Option (Int × Bool × (List Bool)) :=
  loop (impl_valuesOf_l1 p) ((0:Int), ([] : List Bool))

/-- slices.Index[[]int,int] -/
noncomputable def slices_Index_int_l1 (s_ : List Int) (v : Int) : Int → Option (Int ⊕ Int) := fun i =>
  cond (decide (i < (s_.length:Int))) (
    rq (0 ≤ i ∧ i < s_.length) <|
    cond (v == (s_.getD i.toNat 0)) (
      some (.inr i)) (
      rq (i64 (i + (1:Int))) <|
      some (.inl (i + (1:Int))))) (
    some (.inr (-1:Int)))

noncomputable def slices_Index_int (s_ : List Int) (v : Int) : Option Int :=
  loop (slices_Index_int_l1 s_ v) (0:Int)

/-- slices.Contains[[]int,int] -/
noncomputable def slices_Contains_int (s_ : List Int) (v : Int) : Option Bool :=
  (slices_Index_int s_ v).bind fun r1_ =>
  some (decide ((0:Int) ≤ r1_))

/-- impl.ClauseOf$1 -/
noncomputable def impl_ClauseOf_1 (a : Int) (b : Int) : Option Int :=
  (impl_variableOf a).bind fun r1_ =>
  (impl_variableOf b).bind fun r2_ =>
  rq (i64 (r1_ - r2_)) <|
  some (r1_ - r2_)

/-- slices.Compact[[]int,int] -/
noncomputable def slices_Compact_int_j1 : Int × (List Int) → Option (Int ⊕ (List Int)) := fun (k_2, s_2) =>
  rq (0 ≤ k_2 ∧ k_2 ≤ s_2.length) <|
  rq (0 ≤ k_2 ∧ k_2 ≤ (s_2.take k_2.toNat ++ List.replicate (s_2.length - k_2.toNat) (0:Int)).length) <|
  some (.inr ((s_2.take k_2.toNat ++ List.replicate (s_2.length - k_2.toNat) (0:Int)).take k_2.toNat))

noncomputable def slices_Compact_int_l2 (k_ : Int) : Int × Int × (List Int) → Option ((Int × Int × (List Int)) ⊕ (Int ⊕ (List Int))) := fun (k_1, k2_, s_1) =>
  cond (decide (k2_ < ((s_1.length:Int) - k_))) (
    rq (0 ≤ k2_ ∧ k_ + k2_ < s_1.length) <|
    rq (i64 (k2_ - (1:Int))) <|
    rq (0 ≤ (k2_ - (1:Int)) ∧ k_ + (k2_ - (1:Int)) < s_1.length) <|
    cond ((s_1.getD (k_ + k2_).toNat 0) != (s_1.getD (k_ + (k2_ - (1:Int))).toNat 0)) (
      rq (0 ≤ k2_ ∧ k_ + k2_ < s_1.length) <|
      rq (0 ≤ k_1 ∧ k_1 < s_1.length) <|
      rq (i64 (k_1 + (1:Int))) <|
      rq (i64 (k2_ + (1:Int))) <|
      some (.inl ((k_1 + (1:Int)), (k2_ + (1:Int)), (s_1.set k_1.toNat (s_1.getD (k_ + k2_).toNat 0))))) (
      rq (i64 (k2_ + (1:Int))) <|
      some (.inl (k_1, (k2_ + (1:Int)), s_1)))) (
    up (slices_Compact_int_j1 (k_1, s_1)))

noncomputable def slices_Compact_int_l1 (s_ : List Int) : Int → Option (Int ⊕ (List Int)) := fun k_ =>
  cond (decide (k_ < (s_.length:Int))) (
    rq (0 ≤ k_ ∧ k_ < s_.length) <|
    rq (i64 (k_ - (1:Int))) <|
    rq (0 ≤ (k_ - (1:Int)) ∧ (k_ - (1:Int)) < s_.length) <|
    cond ((s_.getD k_.toNat 0) == (s_.getD (k_ - (1:Int)).toNat 0)) (
      rq (0 ≤ k_ ∧ k_ ≤ s_.length) <|
      loop (slices_Compact_int_l2 k_) (k_, (1:Int), s_)) (
      rq (i64 (k_ + (1:Int))) <|
      some (.inl (k_ + (1:Int))))) (
    some (.inr s_))

noncomputable def slices_Compact_int (s_ : List Int) : Option (List Int) :=
  cond (decide ((s_.length:Int) < (2:Int))) (
    some s_) (
    loop (slices_Compact_int_l1 s_) (1:Int))

/-- impl.ClauseOf -/
noncomputable def impl_ClauseOf_l2 (r5_ : (List Int)) : Int × (List (Int × Int)) → Option ((Int × (List (Int × Int))) ⊕ (Int ⊕ (Bool × Int × (List (Int × Int))))) := fun (i1, c_0) =>
  cond (decide (i1 < (r5_.length:Int))) (
    rq (0 ≤ i1 ∧ i1 < r5_.length) <|
    rq (c_0.length + [((1:Int), (r5_.getD i1.toNat 0))].length ≤ bound) <|
    rq (i64 (i1 + (1:Int))) <|
    some (.inl ((i1 + (1:Int)), (c_0 ++ [((1:Int), (r5_.getD i1.toNat 0))])))) (
    some (.inr (.inr (true, (1:Int), c_0))))

noncomputable def impl_ClauseOf_l1 (lits : List Int) : Int → Option (Int ⊕ (Bool × Int × (List (Int × Int)))) := fun i =>
  cond (decide (i < (lits.length:Int))) (
    rq (0 ≤ i ∧ i < lits.length) <|
    (impl_isLiteral (lits.getD i.toNat 0)).bind fun r1_ =>
    cond (!r1_) (
      some (.inr (false, (0:Int), ([] : List (Int × Int))))) (
      rq (i64 (0 - (lits.getD i.toNat 0))) <|
      (slices_Contains_int lits (0 - (lits.getD i.toNat 0))).bind fun r2_ =>
      cond r2_ (
        some (.inr (false, (0:Int), ([] : List (Int × Int))))) (
        rq (i64 (i + (1:Int))) <|
        some (.inl (i + (1:Int)))))) (
    (slices_Clone_int lits).bind fun r3_ =>
    (sortI impl_ClauseOf_1 r3_).bind fun r4_ =>
    (slices_Compact_int r4_).bind fun r5_ =>
    loop (impl_ClauseOf_l2 r5_) ((0:Int), ([] : List (Int × Int))))

noncomputable def impl_ClauseOf (lits : List Int) : Option (Bool × Int × (List (Int × Int))) :=
  cond (decide ((40:Int) < (lits.length:Int))) (
    some (false, (0:Int), ([] : List (Int × Int)))) (
    loop (impl_ClauseOf_l1 lits) (0:Int))

/-- (*impl.searching).fail -/
noncomputable def impl_searching_fail__Rsd_j2 (o1 : List ((List (Int × Int)) × Int)) (o2 : List (Int × Int × Int × (List (Int × Int)) × Int)) (r1_ : Bool × Int × (List (Int × Int))) : Unit → Option ((List ((List (Int × Int)) × Int)) × (List (Int × Int × Int × (List (Int × Int)) × Int))) := fun _ =>
  (impl_Constraint_own (r1_.2.2, r1_.2.1)).bind fun r3_ =>
  rq (o2.length + [((7:Int), ((0:Int), ((0:Int), (r3_.2, r3_.1))))].length ≤ bound) <|
  some ((o1 ++ [(r1_.2.2, r1_.2.1)]), (o2 ++ [((7:Int), ((0:Int), ((0:Int), (r3_.2, r3_.1))))]))

noncomputable def impl_searching_fail__Rsd_j1 (o1 : List ((List (Int × Int)) × Int)) (o2 : List (Int × Int × Int × (List (Int × Int)) × Int)) : (List Int) → Option ((List ((List (Int × Int)) × Int)) × (List (Int × Int × Int × (List (Int × Int)) × Int))) := fun lits1 =>
  (impl_ClauseOf lits1).bind fun r1_ =>
  rq (o1.length + [(r1_.2.2, r1_.2.1)].length ≤ bound) <|
  impl_searching_fail__Rsd_j2 o1 o2 r1_ ()

noncomputable def impl_searching_fail__Rsd_l1 (decisions : List Int) (o1 : List ((List (Int × Int)) × Int)) (o2 : List (Int × Int × Int × (List (Int × Int)) × Int)) : Int × (List Int) → Option ((Int × (List Int)) ⊕ ((List ((List (Int × Int)) × Int)) × (List (Int × Int × Int × (List (Int × Int)) × Int)))) := fun (i, lits) =>
  cond (decide (i < (decisions.length:Int))) (
    rq (0 ≤ i ∧ i < decisions.length) <|
    rq (i64 (0 - (decisions.getD i.toNat 0))) <|
    rq (lits.length + [(0 - (decisions.getD i.toNat 0))].length ≤ bound) <|
    rq (i64 (i + (1:Int))) <|
    some (.inl ((i + (1:Int)), (lits ++ [(0 - (decisions.getD i.toNat 0))])))) (
    up (impl_searching_fail__Rsd_j1 o1 o2 lits))

noncomputable def impl_searching_fail__Rsd (decisions : List Int) (s_1 : Int) (s_3 : Bool) (o1 : List ((List (Int × Int)) × Int)) (o2 : List (Int × Int × Int × (List (Int × Int)) × Int)) : Option ((List ((List (Int × Int)) × Int)) × (List (Int × Int × Int × (List (Int × Int)) × Int))) :=
  loop (impl_searching_fail__Rsd_l1 decisions o1 o2) ((0:Int), ([] : List Int))

/-- (*impl.searching).visit -/
noncomputable def impl_searching_visit__Rsd_j2 (a1 : List Int) : Int × Bool × (List ((List (Int × Int)) × Int)) × (List (Int × Int × Int × (List (Int × Int)) × Int)) → Option (Bool × Int × Bool × (List Bool) × (List ((List (Int × Int)) × Int)) × (List (Int × Int × Int × (List (Int × Int)) × Int))) := fun (i_12, i_32, i_02, i_22) =>
  (impl_searching_fail__Rsd a1 i_12 i_32 i_02 i_22).bind fun r9_ =>
  some (false, i_12, i_32, ([] : List Bool), r9_.1, r9_.2)

noncomputable def impl_searching_visit__Rsd_j3 (a1 : List Int) : Int × Bool × (List ((List (Int × Int)) × Int)) × (List (Int × Int × Int × (List (Int × Int)) × Int)) → Option (Bool × Int × Bool × (List Bool) × (List ((List (Int × Int)) × Int)) × (List (Int × Int × Int × (List (Int × Int)) × Int))) := fun (i_11, i_31, i_01, i_21) =>
  cond (decide ((1000:Int) ≤ (i_21.length:Int))) (
    some (false, i_11, true, ([] : List Bool), i_01, i_21)) (
    impl_searching_visit__Rsd_j2 a1 (i_11, i_31, i_01, i_21))

noncomputable def impl_searching_visit__Rsd_l1 (a1 : List Int) (r4_ : Int × Bool × (List Bool)) (rec_ : (List Int) → Int → Bool → (List ((List (Int × Int)) × Int)) → (List (Int × Int × Int × (List (Int × Int)) × Int)) → Option (Bool × Int × Bool × (List Bool) × (List ((List (Int × Int)) × Int)) × (List (Int × Int × Int × (List (Int × Int)) × Int)))) : Int × Int × Bool × (List ((List (Int × Int)) × Int)) × (List (Int × Int × Int × (List (Int × Int)) × Int)) → Option ((Int × Int × Bool × (List ((List (Int × Int)) × Int)) × (List (Int × Int × Int × (List (Int × Int)) × Int))) ⊕ (Bool × Int × Bool × (List Bool) × (List ((List (Int × Int)) × Int)) × (List (Int × Int × Int × (List (Int × Int)) × Int)))) := fun (i3, i_1, i_3, i_0, i_2) =>
  cond (decide (i3 < ([r4_.1, (0 - r4_.1)].length:Int))) (
    rq (0 ≤ i3 ∧ i3 < [r4_.1, (0 - r4_.1)].length) <|
    (slices_Clone_int a1).bind fun r7_ =>
    rq (r7_.length + [([r4_.1, (0 - r4_.1)].getD i3.toNat 0)].length ≤ bound) <|
    (rec_ (r7_ ++ [([r4_.1, (0 - r4_.1)].getD i3.toNat 0)]) i_1 i_3 i_0 i_2).bind fun r8_ =>
    cond r8_.1 (
      some (.inr (r8_.1, r8_.2.1, r8_.2.2.1, r8_.2.2.2.1, r8_.2.2.2.2.1, r8_.2.2.2.2.2))) (
      cond r8_.2.2.1 (
        some (.inr (r8_.1, r8_.2.1, r8_.2.2.1, r8_.2.2.2.1, r8_.2.2.2.2.1, r8_.2.2.2.2.2))) (
        rq (i64 (i3 + (1:Int))) <|
        some (.inl ((i3 + (1:Int)), r8_.2.1, r8_.2.2.1, r8_.2.2.2.2.1, r8_.2.2.2.2.2))))) (
    up (impl_searching_visit__Rsd_j3 a1 (i_1, i_3, i_0, i_2)))

noncomputable def impl_searching_visit__Rsd_j1 (a1 : List Int) (o0_1 : Int) (o0_3 : Bool) (o1 : List ((List (Int × Int)) × Int)) (o2 : List (Int × Int × Int × (List (Int × Int)) × Int)) (rec_ : (List Int) → Int → Bool → (List ((List (Int × Int)) × Int)) → (List (Int × Int × Int × (List (Int × Int)) × Int)) → Option (Bool × Int × Bool × (List Bool) × (List ((List (Int × Int)) × Int)) × (List (Int × Int × Int × (List (Int × Int)) × Int)))) : (List Int) → Option (Bool × Int × Bool × (List Bool) × (List ((List (Int × Int)) × Int)) × (List (Int × Int × Int × (List (Int × Int)) × Int))) := fun i2 =>
  (impl_propagate o1 i2).bind fun r3_ =>
  cond (decide (r3_.1 < (0:Int))) (
    (impl_valuesOf r3_.2).bind fun r4_ =>
    cond r4_.2.1 (
      some (true, (o0_1 - (1:Int)), o0_3, r4_.2.2, o1, o2)) (
      rq (i64 (0 - r4_.1)) <|
      loop (impl_searching_visit__Rsd_l1 a1 r4_ rec_) ((0:Int), (o0_1 - (1:Int)), o0_3, o1, o2))) (
    impl_searching_visit__Rsd_j2 a1 ((o0_1 - (1:Int)), o0_3, o1, o2))

noncomputable def impl_searching_visit__Rsd_l2 (a1 : List Int) (o0_1 : Int) (o0_3 : Bool) (o1 : List ((List (Int × Int)) × Int)) (o2 : List (Int × Int × Int × (List (Int × Int)) × Int)) (rec_ : (List Int) → Int → Bool → (List ((List (Int × Int)) × Int)) → (List (Int × Int × Int × (List (Int × Int)) × Int)) → Option (Bool × Int × Bool × (List Bool) × (List ((List (Int × Int)) × Int)) × (List (Int × Int × Int × (List (Int × Int)) × Int)))) : Int × (List Int) → Option ((Int × (List Int)) ⊕ (Bool × Int × Bool × (List Bool) × (List ((List (Int × Int)) × Int)) × (List (Int × Int × Int × (List (Int × Int)) × Int)))) := fun (i, i1) =>
  cond (decide (i < (a1.length:Int))) (
    rq (0 ≤ i ∧ i < a1.length) <|
    (impl_variableOf (a1.getD i.toNat 0)).bind fun r2_ =>
    rq (i64 (r2_ - (1:Int))) <|
    rq (0 ≤ (r2_ - (1:Int)) ∧ (r2_ - (1:Int)) < i1.length) <|
    cond (decide ((a1.getD i.toNat 0) < (0:Int))) (
      rq (i64 (0 - (a1.getD i.toNat 0))) <|
      rq (i64 ((0 - (a1.getD i.toNat 0)) - (1:Int))) <|
      rq (0 ≤ ((0 - (a1.getD i.toNat 0)) - (1:Int)) ∧ ((0 - (a1.getD i.toNat 0)) - (1:Int)) < (i1.set (r2_ - (1:Int)).toNat (1:Int)).length) <|
      rq (i64 (i + (1:Int))) <|
      some (.inl ((i + (1:Int)), ((i1.set (r2_ - (1:Int)).toNat (1:Int)).set ((0 - (a1.getD i.toNat 0)) - (1:Int)).toNat (-1:Int))))) (
      rq (i64 (i + (1:Int))) <|
      some (.inl ((i + (1:Int)), (i1.set (r2_ - (1:Int)).toNat (1:Int)))))) (
    up (impl_searching_visit__Rsd_j1 a1 o0_1 o0_3 o1 o2 rec_ i1))

noncomputable def impl_searching_visit__Rsd_rec (rec_ : (List Int) → Int → Bool → (List ((List (Int × Int)) × Int)) → (List (Int × Int × Int × (List (Int × Int)) × Int)) → Option (Bool × Int × Bool × (List Bool) × (List ((List (Int × Int)) × Int)) × (List (Int × Int × Int × (List (Int × Int)) × Int)))) (a1 : List Int) (o0_1 : Int) (o0_3 : Bool) (o1 : List ((List (Int × Int)) × Int)) (o2 : List (Int × Int × Int × (List (Int × Int)) × Int)) : Option (Bool × Int × Bool × (List Bool) × (List ((List (Int × Int)) × Int)) × (List (Int × Int × Int × (List (Int × Int)) × Int))) :=
  cond (o0_1 == (0:Int)) (
    some (false, o0_1, true, ([] : List Bool), o1, o2)) (
    cond (decide ((1000:Int) ≤ (o2.length:Int))) (
      some (false, o0_1, true, ([] : List Bool), o1, o2)) (
      rq (i64 (o0_1 - (1:Int))) <|
      rq (0 ≤ (12:Int) ∧ (12:Int) ≤ bound ∧ (12:Int) = (12:Int)) <|
      loop (impl_searching_visit__Rsd_l2 a1 o0_1 o0_3 o1 o2 rec_) ((0:Int), (List.replicate (12:Int).toNat 0))))

/-- So many calls within calls. -/
noncomputable def impl_searching_visit__Rsd : Nat → (List Int) → Int → Bool → (List ((List (Int × Int)) × Int)) → (List (Int × Int × Int × (List (Int × Int)) × Int)) → Option (Bool × Int × Bool × (List Bool) × (List ((List (Int × Int)) × Int)) × (List (Int × Int × Int × (List (Int × Int)) × Int)))
  | 0 => fun _ _ _ _ _ => none
  | n_ + 1 => impl_searching_visit__Rsd_rec (impl_searching_visit__Rsd n_)

/-- (*impl.searching).visit -/
noncomputable def impl_searching_visit__R0s_j2 (a1 : List Int) : Int × Bool × (List ((List (Int × Int)) × Int)) × (List (Int × Int × Int × (List (Int × Int)) × Int)) → Option (Bool × Int × Bool × (List Bool) × (List ((List (Int × Int)) × Int)) × (List (Int × Int × Int × (List (Int × Int)) × Int))) := fun (i_12, i_32, i_02, i_22) =>
  (impl_searching_fail__Rsd a1 i_12 i_32 i_02 i_22).bind fun r9_ =>
  some (false, i_12, i_32, ([] : List Bool), r9_.1, r9_.2)

noncomputable def impl_searching_visit__R0s_j3 (a1 : List Int) : Int × Bool × (List ((List (Int × Int)) × Int)) × (List (Int × Int × Int × (List (Int × Int)) × Int)) → Option (Bool × Int × Bool × (List Bool) × (List ((List (Int × Int)) × Int)) × (List (Int × Int × Int × (List (Int × Int)) × Int))) := fun (i_11, i_31, i_01, i_21) =>
  cond (decide ((1000:Int) ≤ (i_21.length:Int))) (
    some (false, i_11, true, ([] : List Bool), i_01, i_21)) (
    impl_searching_visit__R0s_j2 a1 (i_11, i_31, i_01, i_21))

noncomputable def impl_searching_visit__R0s_l1 (a1 : List Int) (r4_ : Int × Bool × (List Bool)) : Int × Int × Bool × (List ((List (Int × Int)) × Int)) × (List (Int × Int × Int × (List (Int × Int)) × Int)) → Option ((Int × Int × Bool × (List ((List (Int × Int)) × Int)) × (List (Int × Int × Int × (List (Int × Int)) × Int))) ⊕ (Bool × Int × Bool × (List Bool) × (List ((List (Int × Int)) × Int)) × (List (Int × Int × Int × (List (Int × Int)) × Int)))) := fun (i3, i_1, i_3, i_0, i_2) =>
  cond (decide (i3 < ([r4_.1, (0 - r4_.1)].length:Int))) (
    rq (0 ≤ i3 ∧ i3 < [r4_.1, (0 - r4_.1)].length) <|
    (slices_Clone_int a1).bind fun r7_ =>
    rq (r7_.length + [([r4_.1, (0 - r4_.1)].getD i3.toNat 0)].length ≤ bound) <|
    (impl_searching_visit__Rsd 64 (r7_ ++ [([r4_.1, (0 - r4_.1)].getD i3.toNat 0)]) i_1 i_3 i_0 i_2).bind fun r8_ =>
    cond r8_.1 (
      some (.inr (r8_.1, r8_.2.1, r8_.2.2.1, r8_.2.2.2.1, r8_.2.2.2.2.1, r8_.2.2.2.2.2))) (
      cond r8_.2.2.1 (
        some (.inr (r8_.1, r8_.2.1, r8_.2.2.1, r8_.2.2.2.1, r8_.2.2.2.2.1, r8_.2.2.2.2.2))) (
        rq (i64 (i3 + (1:Int))) <|
        some (.inl ((i3 + (1:Int)), r8_.2.1, r8_.2.2.1, r8_.2.2.2.2.1, r8_.2.2.2.2.2))))) (
    up (impl_searching_visit__R0s_j3 a1 (i_1, i_3, i_0, i_2)))

noncomputable def impl_searching_visit__R0s_j1 (a1 : List Int) (o0_1 : Int) (o0_3 : Bool) (o1 : List ((List (Int × Int)) × Int)) : (List Int) → Option (Bool × Int × Bool × (List Bool) × (List ((List (Int × Int)) × Int)) × (List (Int × Int × Int × (List (Int × Int)) × Int))) := fun i2 =>
  (impl_propagate o1 i2).bind fun r3_ =>
  cond (decide (r3_.1 < (0:Int))) (
    (impl_valuesOf r3_.2).bind fun r4_ =>
    cond r4_.2.1 (
      some (true, (o0_1 - (1:Int)), o0_3, r4_.2.2, o1, ([] : List (Int × Int × Int × (List (Int × Int)) × Int)))) (
      rq (i64 (0 - r4_.1)) <|
      loop (impl_searching_visit__R0s_l1 a1 r4_) ((0:Int), (o0_1 - (1:Int)), o0_3, o1, ([] : List (Int × Int × Int × (List (Int × Int)) × Int))))) (
    impl_searching_visit__R0s_j2 a1 ((o0_1 - (1:Int)), o0_3, o1, ([] : List (Int × Int × Int × (List (Int × Int)) × Int))))

noncomputable def impl_searching_visit__R0s_l2 (a1 : List Int) (o0_1 : Int) (o0_3 : Bool) (o1 : List ((List (Int × Int)) × Int)) : Int × (List Int) → Option ((Int × (List Int)) ⊕ (Bool × Int × Bool × (List Bool) × (List ((List (Int × Int)) × Int)) × (List (Int × Int × Int × (List (Int × Int)) × Int)))) := fun (i, i1) =>
  cond (decide (i < (a1.length:Int))) (
    rq (0 ≤ i ∧ i < a1.length) <|
    (impl_variableOf (a1.getD i.toNat 0)).bind fun r2_ =>
    rq (i64 (r2_ - (1:Int))) <|
    rq (0 ≤ (r2_ - (1:Int)) ∧ (r2_ - (1:Int)) < i1.length) <|
    cond (decide ((a1.getD i.toNat 0) < (0:Int))) (
      rq (i64 (0 - (a1.getD i.toNat 0))) <|
      rq (i64 ((0 - (a1.getD i.toNat 0)) - (1:Int))) <|
      rq (0 ≤ ((0 - (a1.getD i.toNat 0)) - (1:Int)) ∧ ((0 - (a1.getD i.toNat 0)) - (1:Int)) < (i1.set (r2_ - (1:Int)).toNat (1:Int)).length) <|
      rq (i64 (i + (1:Int))) <|
      some (.inl ((i + (1:Int)), ((i1.set (r2_ - (1:Int)).toNat (1:Int)).set ((0 - (a1.getD i.toNat 0)) - (1:Int)).toNat (-1:Int))))) (
      rq (i64 (i + (1:Int))) <|
      some (.inl ((i + (1:Int)), (i1.set (r2_ - (1:Int)).toNat (1:Int)))))) (
    up (impl_searching_visit__R0s_j1 a1 o0_1 o0_3 o1 i1))

noncomputable def impl_searching_visit__R0s_rec (rec_ : (List Int) → Int → Bool → (List ((List (Int × Int)) × Int)) → Option (Bool × Int × Bool × (List Bool) × (List ((List (Int × Int)) × Int)) × (List (Int × Int × Int × (List (Int × Int)) × Int)))) (a1 : List Int) (o0_1 : Int) (o0_3 : Bool) (o1 : List ((List (Int × Int)) × Int)) : Option (Bool × Int × Bool × (List Bool) × (List ((List (Int × Int)) × Int)) × (List (Int × Int × Int × (List (Int × Int)) × Int))) :=
  cond (o0_1 == (0:Int)) (
    some (false, o0_1, true, ([] : List Bool), o1, ([] : List (Int × Int × Int × (List (Int × Int)) × Int)))) (
    cond (decide ((1000:Int) ≤ (0:Int))) (
      some (false, o0_1, true, ([] : List Bool), o1, ([] : List (Int × Int × Int × (List (Int × Int)) × Int)))) (
      rq (i64 (o0_1 - (1:Int))) <|
      rq (0 ≤ (12:Int) ∧ (12:Int) ≤ bound ∧ (12:Int) = (12:Int)) <|
      loop (impl_searching_visit__R0s_l2 a1 o0_1 o0_3 o1) ((0:Int), (List.replicate (12:Int).toNat 0))))

/-- So many calls within calls. -/
noncomputable def impl_searching_visit__R0s : Nat → (List Int) → Int → Bool → (List ((List (Int × Int)) × Int)) → Option (Bool × Int × Bool × (List Bool) × (List ((List (Int × Int)) × Int)) × (List (Int × Int × Int × (List (Int × Int)) × Int)))
  | 0 => fun _ _ _ _ => none
  | n_ + 1 => impl_searching_visit__R0s_rec (impl_searching_visit__R0s n_)

/-- impl.SolveProblem -/
noncomputable def impl_SolveProblem (list_ : List ((List (Int × Int)) × Int)) (fuel : Int) : Option (Int × (List Bool) × (List (Int × Int × Int × (List (Int × Int)) × Int))) :=
  (impl_ProblemValid list_).bind fun r1_ =>
  cond (!r1_) (
    some ((3:Int), ([] : List Bool), ([] : List (Int × Int × Int × (List (Int × Int)) × Int)))) (
    (impl_isFuel fuel).bind fun r2_ =>
    cond (!r2_) (
      some ((3:Int), ([] : List Bool), ([] : List (Int × Int × Int × (List (Int × Int)) × Int)))) (
      (slices_Clone_impl_Constraint list_).bind fun r3_ =>
      (impl_searching_visit__R0s 64 ([] : List Int) fuel false r3_).bind fun r4_ =>
      cond r4_.1 (
        some ((1:Int), r4_.2.2.2.1, ([] : List (Int × Int × Int × (List (Int × Int)) × Int)))) (
        cond r4_.2.2.1 (
          some ((0:Int), ([] : List Bool), ([] : List (Int × Int × Int × (List (Int × Int)) × Int)))) (
          some ((2:Int), ([] : List Bool), r4_.2.2.2.2.2)))))

/-- impl.holds -/
noncomputable def impl_holds (l : Int) (values : List Bool) : Option Bool :=
  (impl_variableOf l).bind fun r1_ =>
  rq (i64 (r1_ - (1:Int))) <|
  rq (0 ≤ (r1_ - (1:Int)) ∧ (r1_ - (1:Int)) < values.length) <|
  some ((values.getD (r1_ - (1:Int)).toNat false) == (decide ((0:Int) < l)))

/-- impl.CubeHolds$1 -/
noncomputable def impl_CubeHolds_1 (l : Int) (o0 : List Bool) : Option Bool :=
  (impl_holds l o0).bind fun r1_ =>
  some (!r1_)

/-- slices.IndexFunc[[]int,int] -/
noncomputable def slices_IndexFunc_int__impl_CubeHolds_1_l1 (s_ : List Int) (o0 : List Bool) : Int → Option (Int ⊕ Int) := fun i =>
  cond (decide (i < (s_.length:Int))) (
    rq (0 ≤ i ∧ i < s_.length) <|
    (impl_CubeHolds_1 (s_.getD i.toNat 0) o0).bind fun r1_ =>
    cond r1_ (
      some (.inr i)) (
      rq (i64 (i + (1:Int))) <|
      some (.inl (i + (1:Int))))) (
    some (.inr (-1:Int)))

noncomputable def slices_IndexFunc_int__impl_CubeHolds_1 (s_ : List Int) (o0 : List Bool) : Option Int :=
  loop (slices_IndexFunc_int__impl_CubeHolds_1_l1 s_ o0) (0:Int)

/-- slices.ContainsFunc[[]int,int] -/
noncomputable def slices_ContainsFunc_int__impl_CubeHolds_1 (s_ : List Int) (o0 : List Bool) : Option Bool :=
  (slices_IndexFunc_int__impl_CubeHolds_1 s_ o0).bind fun r1_ =>
  some (decide ((0:Int) ≤ r1_))

/-- impl.CubeHolds -/
noncomputable def impl_CubeHolds (cube : List Int) (values : List Bool) : Option Bool :=
  (impl_isCube cube).bind fun r1_ =>
  cond r1_ (
    cond ((values.length:Int) == (12:Int)) (
      (slices_ContainsFunc_int__impl_CubeHolds_1 cube values).bind fun r2_ =>
      some (!r2_)) (
      some false)) (
    some false)

/-- (impl.Constraint).holds -/
noncomputable def impl_Constraint_holds_l1 (c_ : (List (Int × Int)) × Int) (values : List Bool) : Int × Int → Option ((Int × Int) ⊕ Bool) := fun (sum, i) =>
  cond (decide (i < (c_.1.length:Int))) (
    rq (0 ≤ i ∧ i < c_.1.length) <|
    (impl_holds (c_.1.getD i.toNat (0, 0)).2 values).bind fun r1_ =>
    cond r1_ (
      rq (i64 (sum + (c_.1.getD i.toNat (0, 0)).1)) <|
      rq (i64 (i + (1:Int))) <|
      some (.inl ((sum + (c_.1.getD i.toNat (0, 0)).1), (i + (1:Int))))) (
      rq (i64 (i + (1:Int))) <|
      some (.inl (sum, (i + (1:Int)))))) (
    some (.inr (decide (c_.2 ≤ sum))))

noncomputable def impl_Constraint_holds (c_ : (List (Int × Int)) × Int) (values : List Bool) : Option Bool :=
  loop (impl_Constraint_holds_l1 c_ values) ((0:Int), (0:Int))

/-- impl.satisfies$1 -/
noncomputable def impl_satisfies_1 (c_ : (List (Int × Int)) × Int) (o0 : List Bool) : Option Bool :=
  (impl_Constraint_holds c_ o0).bind fun r1_ =>
  some (!r1_)

/-- slices.IndexFunc[[]impl.Constraint,impl.Constraint] -/
noncomputable def slices_IndexFunc_impl_Constraint__impl_satisfies_1_l1 (s_ : List ((List (Int × Int)) × Int)) (o0 : List Bool) : Int → Option (Int ⊕ Int) := fun i =>
  cond (decide (i < (s_.length:Int))) (
    rq (0 ≤ i ∧ i < s_.length) <|
    (impl_satisfies_1 (s_.getD i.toNat ([], 0)) o0).bind fun r1_ =>
    cond r1_ (
      some (.inr i)) (
      rq (i64 (i + (1:Int))) <|
      some (.inl (i + (1:Int))))) (
    some (.inr (-1:Int)))

noncomputable def slices_IndexFunc_impl_Constraint__impl_satisfies_1 (s_ : List ((List (Int × Int)) × Int)) (o0 : List Bool) : Option Int :=
  loop (slices_IndexFunc_impl_Constraint__impl_satisfies_1_l1 s_ o0) (0:Int)

/-- slices.ContainsFunc[[]impl.Constraint,impl.Constraint] -/
noncomputable def slices_ContainsFunc_impl_Constraint__impl_satisfies_1 (s_ : List ((List (Int × Int)) × Int)) (o0 : List Bool) : Option Bool :=
  (slices_IndexFunc_impl_Constraint__impl_satisfies_1 s_ o0).bind fun r1_ =>
  some (decide ((0:Int) ≤ r1_))

/-- impl.satisfies -/
noncomputable def impl_satisfies (list_ : List ((List (Int × Int)) × Int)) (values : List Bool) : Option Bool :=
  (slices_ContainsFunc_impl_Constraint__impl_satisfies_1 list_ values).bind fun r1_ =>
  some (!r1_)

/-- impl.SatisfiesAll -/
noncomputable def impl_SatisfiesAll (list_ : List ((List (Int × Int)) × Int)) (values : List Bool) : Option Bool :=
  (impl_ProblemValid list_).bind fun r1_ =>
  cond r1_ (
    cond ((values.length:Int) == (12:Int)) (
      (impl_satisfies list_ values).bind fun r2_ =>
      some r2_) (
      some false)) (
    some false)

/-- impl.numbered -/
noncomputable def impl_numbered_l1 (n : Int) : Int × (List Bool) → Option ((Int × (List Bool)) ⊕ (List Bool)) := fun (i, out) =>
  cond (decide (i < ((List.replicate (12:Int).toNat false).length:Int))) (
    rq (i64 ((11:Int) - i)) <|
    rq ((0 ≤ ((11:Int) - i) ∧ ((11:Int) - i) ≤ 62) ∧ 0 ≤ n) <|
    rq (0 ≤ (n / 2 ^ ((11:Int) - i).toNat) ∧ 0 ≤ (1:Int)) <|
    rq (0 ≤ i ∧ i < out.length) <|
    rq (i64 (i + (1:Int))) <|
    some (.inl ((i + (1:Int)), (out.set i.toNat ((((n / 2 ^ ((11:Int) - i).toNat).toNat &&& (1:Int).toNat : Nat) : Int) == (1:Int)))))) (
    some (.inr out))

noncomputable def impl_numbered (n : Int) : Option (List Bool) :=
  rq (0 ≤ (12:Int) ∧ (12:Int) ≤ bound ∧ (12:Int) = (12:Int)) <|
  loop (impl_numbered_l1 n) ((0:Int), (List.replicate (12:Int).toNat false))

/-- impl.CountSolutions -/
noncomputable def impl_CountSolutions_l1 (list_ : List ((List (Int × Int)) × Int)) : Int × Int → Option ((Int × Int) ⊕ Int) := fun (count, i) =>
  cond (decide (i < (4096:Int))) (
    (impl_numbered i).bind fun r2_ =>
    (impl_satisfies list_ r2_).bind fun r3_ =>
    cond r3_ (
      rq (i64 (count + (1:Int))) <|
      rq (i64 (i + (1:Int))) <|
      some (.inl ((count + (1:Int)), (i + (1:Int))))) (
      rq (i64 (i + (1:Int))) <|
      some (.inl (count, (i + (1:Int)))))) (
    some (.inr count))

noncomputable def impl_CountSolutions (list_ : List ((List (Int × Int)) × Int)) : Option Int :=
  (impl_ProblemValid list_).bind fun r1_ =>
  cond (!r1_) (
    some (0:Int)) (
    loop (impl_CountSolutions_l1 list_) ((0:Int), (0:Int)))

/-- laws.FnCubeSearch -/
noncomputable def laws_FnCubeSearch (a0 : List Int) : Option Bool :=
  cond (decide ((1048576:Int) < (a0.length:Int))) (
    some true) (
    (spec_DrawCubeProblem a0).bind fun r1_ =>
    (impl_CubeProblem r1_.1 r1_.2).bind fun r2_ =>
    (spec_CubeProblem r1_.1 r1_.2).bind fun r3_ =>
    cond (r2_.1 != r3_.1) (
      cond (r2_.1 == r3_.1) (
        (laws_cpProblem r2_.2 r3_.2).bind fun r7_ =>
        some r7_) (
        some false)) (
      (laws_cpProblem r2_.2 r3_.2).bind fun r4_ =>
      cond (!r4_) (
        cond (r2_.1 == r3_.1) (
          (laws_cpProblem r2_.2 r3_.2).bind fun r6_ =>
          some r6_) (
          some false)) (
        cond (!r2_.1) (
          cond (r2_.1 == r3_.1) (
            (laws_cpProblem r2_.2 r3_.2).bind fun r5_ =>
            some r5_) (
            some false)) (
          (impl_SolveProblem r2_.2 (2000:Int)).bind fun r8_ =>
          cond (r8_.1 == (1:Int)) (
            (impl_CubeHolds r1_.2 r8_.2.1).bind fun r9_ =>
            cond r9_ (
              (impl_SatisfiesAll r1_.1 r8_.2.1).bind fun r10_ =>
              some r10_) (
              some false)) (
            cond (r8_.1 == (2:Int)) (
              (impl_CountSolutions r2_.2).bind fun r11_ =>
              some (r11_ == (0:Int))) (
              some (r8_.1 == (0:Int))))))))

end Go.AE.Y
