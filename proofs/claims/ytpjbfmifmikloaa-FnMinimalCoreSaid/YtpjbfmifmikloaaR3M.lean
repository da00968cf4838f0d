/-
  Models of the functions: what each computes, as a Lean function into Option. Definitions alone.
-/
import Derived.Test.YtpjbfmifmikloaaAEModel
namespace Go.AE.Y
open Go Go.AE
set_option linter.unusedVariables false

/-- spec.l17Open -/
noncomputable def spec_l17Open_j1 : (List Int) → Option (((List Int) × Int)) := fun code1 =>
  some (code1, (0:Int))

noncomputable def spec_l17Open (code : List Int) : Option (((List Int) × Int)) :=
  cond (decide ((2000:Int) < (code.length:Int))) (
    rq (0 ≤ (2000:Int) ∧ (2000:Int) ≤ code.length) <|
    spec_l17Open_j1 (code.take (2000:Int).toNat)) (
    spec_l17Open_j1 code)

/-- (*spec.l17Rd).pick -/
noncomputable def spec_l17Rd_pick (a1 : Int) (o0 : (List Int) × Int) : Option (Int × ((List Int) × Int)) :=
  rq (i64 (o0.2 + (1:Int))) <|
  cond (decide (a1 < (1:Int))) (
    some ((0:Int), (o0.1, (o0.2 + (1:Int))))) (
    cond ((o0.1.length:Int) == (0:Int)) (
      some ((0:Int), (o0.1, (o0.2 + (1:Int))))) (
      rq (i64 ((o0.2 + (1:Int)) - (1:Int))) <|
      cond (decide (((o0.2 + (1:Int)) - (1:Int)) < (o0.1.length:Int))) (
        rq (0 ≤ ((o0.2 + (1:Int)) - (1:Int)) ∧ ((o0.2 + (1:Int)) - (1:Int)) < o0.1.length) <|
        rq (i64 (o0.1.getD ((o0.2 + (1:Int)) - (1:Int)).toNat 0)) <|
        rq (1 ≤ a1 ∧ 0 ≤ (o0.1.getD ((o0.2 + (1:Int)) - (1:Int)).toNat 0)) <|
        some (((o0.1.getD ((o0.2 + (1:Int)) - (1:Int)).toNat 0) % a1), (o0.1, (o0.2 + (1:Int))))) (
        rq (1 ≤ (o0.1.length:Int) ∧ 0 ≤ ((o0.2 + (1:Int)) - (1:Int))) <|
        rq (0 ≤ (((o0.2 + (1:Int)) - (1:Int)) % (o0.1.length:Int)) ∧ (((o0.2 + (1:Int)) - (1:Int)) % (o0.1.length:Int)) < o0.1.length) <|
        rq (i64 (o0.1.getD (((o0.2 + (1:Int)) - (1:Int)) % (o0.1.length:Int)).toNat 0)) <|
        rq (i64 ((o0.1.getD (((o0.2 + (1:Int)) - (1:Int)) % (o0.1.length:Int)).toNat 0) * (131:Int))) <|
        rq (i64 (((o0.2 + (1:Int)) - (1:Int)) * (7:Int))) <|
        rq (i64 ((((o0.2 + (1:Int)) - (1:Int)) * (7:Int)) + (3:Int))) <|
        rq (1 ≤ (o0.1.length:Int) ∧ 0 ≤ ((((o0.2 + (1:Int)) - (1:Int)) * (7:Int)) + (3:Int))) <|
        rq (0 ≤ (((((o0.2 + (1:Int)) - (1:Int)) * (7:Int)) + (3:Int)) % (o0.1.length:Int)) ∧ (((((o0.2 + (1:Int)) - (1:Int)) * (7:Int)) + (3:Int)) % (o0.1.length:Int)) < o0.1.length) <|
        rq (i64 (o0.1.getD (((((o0.2 + (1:Int)) - (1:Int)) * (7:Int)) + (3:Int)) % (o0.1.length:Int)).toNat 0)) <|
        rq (i64 ((o0.1.getD (((((o0.2 + (1:Int)) - (1:Int)) * (7:Int)) + (3:Int)) % (o0.1.length:Int)).toNat 0) * (1117:Int))) <|
        rq (i64 (((o0.1.getD (((o0.2 + (1:Int)) - (1:Int)) % (o0.1.length:Int)).toNat 0) * (131:Int)) + ((o0.1.getD (((((o0.2 + (1:Int)) - (1:Int)) * (7:Int)) + (3:Int)) % (o0.1.length:Int)).toNat 0) * (1117:Int)))) <|
        rq (i64 (((o0.2 + (1:Int)) - (1:Int)) * (29:Int))) <|
        rq (i64 ((((o0.1.getD (((o0.2 + (1:Int)) - (1:Int)) % (o0.1.length:Int)).toNat 0) * (131:Int)) + ((o0.1.getD (((((o0.2 + (1:Int)) - (1:Int)) * (7:Int)) + (3:Int)) % (o0.1.length:Int)).toNat 0) * (1117:Int))) + (((o0.2 + (1:Int)) - (1:Int)) * (29:Int)))) <|
        rq (1 ≤ (o0.1.length:Int) ∧ 0 ≤ ((o0.2 + (1:Int)) - (1:Int))) <|
        rq (i64 ((((o0.2 + (1:Int)) - (1:Int)) / (o0.1.length:Int)) * (53:Int))) <|
        rq (i64 (((((o0.1.getD (((o0.2 + (1:Int)) - (1:Int)) % (o0.1.length:Int)).toNat 0) * (131:Int)) + ((o0.1.getD (((((o0.2 + (1:Int)) - (1:Int)) * (7:Int)) + (3:Int)) % (o0.1.length:Int)).toNat 0) * (1117:Int))) + (((o0.2 + (1:Int)) - (1:Int)) * (29:Int))) + ((((o0.2 + (1:Int)) - (1:Int)) / (o0.1.length:Int)) * (53:Int)))) <|
        rq (1 ≤ (64:Int) ∧ 0 ≤ (((((o0.1.getD (((o0.2 + (1:Int)) - (1:Int)) % (o0.1.length:Int)).toNat 0) * (131:Int)) + ((o0.1.getD (((((o0.2 + (1:Int)) - (1:Int)) * (7:Int)) + (3:Int)) % (o0.1.length:Int)).toNat 0) * (1117:Int))) + (((o0.2 + (1:Int)) - (1:Int)) * (29:Int))) + ((((o0.2 + (1:Int)) - (1:Int)) / (o0.1.length:Int)) * (53:Int)))) <|
        rq (0 ≤ (((((o0.1.getD (((o0.2 + (1:Int)) - (1:Int)) % (o0.1.length:Int)).toNat 0) * (131:Int)) + ((o0.1.getD (((((o0.2 + (1:Int)) - (1:Int)) * (7:Int)) + (3:Int)) % (o0.1.length:Int)).toNat 0) * (1117:Int))) + (((o0.2 + (1:Int)) - (1:Int)) * (29:Int))) + ((((o0.2 + (1:Int)) - (1:Int)) / (o0.1.length:Int)) * (53:Int))) ∧ 0 ≤ ((((((o0.1.getD (((o0.2 + (1:Int)) - (1:Int)) % (o0.1.length:Int)).toNat 0) * (131:Int)) + ((o0.1.getD (((((o0.2 + (1:Int)) - (1:Int)) * (7:Int)) + (3:Int)) % (o0.1.length:Int)).toNat 0) * (1117:Int))) + (((o0.2 + (1:Int)) - (1:Int)) * (29:Int))) + ((((o0.2 + (1:Int)) - (1:Int)) / (o0.1.length:Int)) * (53:Int))) / (64:Int))) <|
        rq (1 ≤ a1 ∧ 0 ≤ (((((((o0.1.getD (((o0.2 + (1:Int)) - (1:Int)) % (o0.1.length:Int)).toNat 0) * (131:Int)) + ((o0.1.getD (((((o0.2 + (1:Int)) - (1:Int)) * (7:Int)) + (3:Int)) % (o0.1.length:Int)).toNat 0) * (1117:Int))) + (((o0.2 + (1:Int)) - (1:Int)) * (29:Int))) + ((((o0.2 + (1:Int)) - (1:Int)) / (o0.1.length:Int)) * (53:Int))).toNat ^^^ ((((((o0.1.getD (((o0.2 + (1:Int)) - (1:Int)) % (o0.1.length:Int)).toNat 0) * (131:Int)) + ((o0.1.getD (((((o0.2 + (1:Int)) - (1:Int)) * (7:Int)) + (3:Int)) % (o0.1.length:Int)).toNat 0) * (1117:Int))) + (((o0.2 + (1:Int)) - (1:Int)) * (29:Int))) + ((((o0.2 + (1:Int)) - (1:Int)) / (o0.1.length:Int)) * (53:Int))) / (64:Int)).toNat : Nat) : Int)) <|
        some (((((((((o0.1.getD (((o0.2 + (1:Int)) - (1:Int)) % (o0.1.length:Int)).toNat 0) * (131:Int)) + ((o0.1.getD (((((o0.2 + (1:Int)) - (1:Int)) * (7:Int)) + (3:Int)) % (o0.1.length:Int)).toNat 0) * (1117:Int))) + (((o0.2 + (1:Int)) - (1:Int)) * (29:Int))) + ((((o0.2 + (1:Int)) - (1:Int)) / (o0.1.length:Int)) * (53:Int))).toNat ^^^ ((((((o0.1.getD (((o0.2 + (1:Int)) - (1:Int)) % (o0.1.length:Int)).toNat 0) * (131:Int)) + ((o0.1.getD (((((o0.2 + (1:Int)) - (1:Int)) * (7:Int)) + (3:Int)) % (o0.1.length:Int)).toNat 0) * (1117:Int))) + (((o0.2 + (1:Int)) - (1:Int)) * (29:Int))) + ((((o0.2 + (1:Int)) - (1:Int)) / (o0.1.length:Int)) * (53:Int))) / (64:Int)).toNat : Nat) : Int) % a1), (o0.1, (o0.2 + (1:Int)))))))

/-- (*spec.l17Rd).num -/
noncomputable def spec_l17Rd_num (list_ : List Int) (r_ : (List Int) × Int) : Option (Int × ((List Int) × Int)) :=
  (spec_l17Rd_pick (list_.length:Int) r_).bind fun r1_ =>
  rq (0 ≤ r1_.1 ∧ r1_.1 < list_.length) <|
  some ((list_.getD r1_.1.toNat 0), r1_.2)

/-- spec.l1Total -/
noncomputable def spec_l1Total_l1 (c_ : (List (Int × Int)) × Int) : Int × Int → Option ((Int × Int) ⊕ Int) := fun (n, i) =>
  cond (decide (i < (c_.1.length:Int))) (
    rq (0 ≤ i ∧ i < c_.1.length) <|
    rq (i64 (n + (c_.1.getD i.toNat (0, 0)).1)) <|
    rq (i64 (i + (1:Int))) <|
    some (.inl ((n + (c_.1.getD i.toNat (0, 0)).1), (i + (1:Int))))) (
    some (.inr n))

noncomputable def spec_l1Total (c_ : (List (Int × Int)) × Int) : Option Int :=
  loop (spec_l1Total_l1 c_) ((0:Int), (0:Int))

/-- spec.l1Draw -/
noncomputable def spec_l1Draw_j1 : ((List Int) × Int) × (List (Int × Int)) → Option (((List Int) × Int) × Int × (List (Int × Int))) := fun (r_4, c_01) =>
  (spec_l1Total (c_01, (0:Int))).bind fun r7_ =>
  (spec_l17Rd_num [(1:Int), (2:Int), (1:Int), (3:Int), (0:Int)] r_4).bind fun r8_ =>
  (spec_l17Rd_pick (4:Int) r8_.2).bind fun r9_ =>
  cond (r9_.1 == (0:Int)) (
    rq (i64 (r7_ + (2:Int))) <|
    (spec_l17Rd_pick (r7_ + (2:Int)) r9_.2).bind fun r10_ =>
    some (r10_.2, r10_.1, c_01)) (
    some (r9_.2, r8_.1, c_01))

noncomputable def spec_l1Draw_j2 (v : Int) (c_0 : List (Int × Int)) : ((List Int) × Int) × (Int × Int) → Option ((Int × ((List Int) × Int) × (List (Int × Int))) ⊕ (((List Int) × Int) × Int × (List (Int × Int)))) := fun (r_3, t_1) =>
  rq (c_0.length + [t_1].length ≤ bound) <|
  rq (i64 (v + (1:Int))) <|
  some (.inl ((v + (1:Int)), r_3, (c_0 ++ [t_1])))

noncomputable def spec_l1Draw_l1 (most : Int) : Int × ((List Int) × Int) × (List (Int × Int)) → Option ((Int × ((List Int) × Int) × (List (Int × Int))) ⊕ (((List Int) × Int) × Int × (List (Int × Int)))) := fun (v, r_2, c_0) =>
  cond (decide (v ≤ most)) (
    (spec_l17Rd_pick (2:Int) r_2).bind fun r4_ =>
    cond (r4_.1 == (0:Int)) (
      (spec_l17Rd_num [(1:Int), (1:Int), (2:Int), (3:Int), (1:Int), (5:Int), (4:Int)] r4_.2).bind fun r5_ =>
      (spec_l17Rd_pick (2:Int) r5_.2).bind fun r6_ =>
      cond (r6_.1 == (0:Int)) (
        rq (i64 (0 - v)) <|
        spec_l1Draw_j2 v c_0 (r6_.2, (r5_.1, (0 - v)))) (
        spec_l1Draw_j2 v c_0 (r6_.2, (r5_.1, v)))) (
      rq (i64 (v + (1:Int))) <|
      some (.inl ((v + (1:Int)), r4_.2, c_0)))) (
    up (spec_l1Draw_j1 (r_2, c_0)))

noncomputable def spec_l1Draw (most : Int) (r_ : (List Int) × Int) : Option (((List Int) × Int) × Int × (List (Int × Int))) :=
  loop (spec_l1Draw_l1 most) ((1:Int), r_, ([] : List (Int × Int)))

/-- spec.l3Problem -/
noncomputable def spec_l3Problem_l1 (r1_ : Int × ((List Int) × Int)) : Int × ((List Int) × Int) × (List ((List (Int × Int)) × Int)) → Option ((Int × ((List Int) × Int) × (List ((List (Int × Int)) × Int))) ⊕ (((List Int) × Int) × (List ((List (Int × Int)) × Int)))) := fun (i, r_1, out) =>
  cond (decide ((0:Int) < i)) (
    (spec_l1Draw r1_.1 r_1).bind fun r4_ =>
    rq (out.length + [(r4_.2.2, r4_.2.1)].length ≤ bound) <|
    rq (i64 (i - (1:Int))) <|
    some (.inl ((i - (1:Int)), r4_.1, (out ++ [(r4_.2.2, r4_.2.1)])))) (
    some (.inr (r_1, out)))

noncomputable def spec_l3Problem (r_ : (List Int) × Int) : Option (((List Int) × Int) × (List ((List (Int × Int)) × Int))) :=
  (spec_l17Rd_num [(4:Int), (5:Int), (3:Int), (6:Int)] r_).bind fun r1_ =>
  (spec_l17Rd_num [(4:Int), (6:Int), (3:Int), (8:Int), (2:Int), (1:Int), (0:Int)] r1_.2).bind fun r2_ =>
  loop (spec_l3Problem_l1 r1_) (r2_.1, r2_.2, ([] : List ((List (Int × Int)) × Int)))

/-- spec.l5Hard -/
noncomputable def spec_l5Hard_l1 : Int × ((List Int) × Int) × (List ((List (Int × Int)) × Int)) → Option ((Int × ((List Int) × Int) × (List ((List (Int × Int)) × Int))) ⊕ (((List Int) × Int) × (List ((List (Int × Int)) × Int)))) := fun (i, r_1, list_) =>
  cond (decide ((0:Int) < i)) (
    (spec_l1Draw (4:Int) r_1).bind fun r6_ =>
    (spec_l1Total (r6_.2.2, r6_.2.1)).bind fun r7_ =>
    rq (1 ≤ (2:Int) ∧ 0 ≤ r7_) <|
    rq (i64 ((r7_ / (2:Int)) + (1:Int))) <|
    (spec_l17Rd_pick ((r7_ / (2:Int)) + (1:Int)) r6_.1).bind fun r8_ =>
    rq (i64 (r7_ - r8_.1)) <|
    rq (list_.length + [(r6_.2.2, (r7_ - r8_.1))].length ≤ bound) <|
    rq (i64 (i - (1:Int))) <|
    some (.inl ((i - (1:Int)), r8_.2, (list_ ++ [(r6_.2.2, (r7_ - r8_.1))])))) (
    some (.inr (r_1, list_)))

noncomputable def spec_l5Hard (r_ : (List Int) × Int) : Option (((List Int) × Int) × (List ((List (Int × Int)) × Int))) :=
  (spec_l3Problem r_).bind fun r1_ =>
  (spec_l17Rd_num [(2:Int), (4:Int), (3:Int), (6:Int), (0:Int)] r1_.1).bind fun r2_ =>
  loop (spec_l5Hard_l1) (r2_.1, r2_.2, r1_.2)

/-- spec.l11Closed -/
noncomputable def spec_l11Closed (r_ : (List Int) × Int) : Option (((List Int) × Int) × (List ((List (Int × Int)) × Int))) :=
  (spec_l5Hard r_).bind fun r1_ =>
  (spec_l17Rd_pick (3:Int) r1_.1).bind fun r2_ =>
  cond (decide ((0:Int) < r2_.1)) (
    (spec_l17Rd_pick (4:Int) r2_.2).bind fun r3_ =>
    rq (i64 ((1:Int) + r3_.1)) <|
    rq (r1_.2.length + [([((1:Int), ((1:Int) + r3_.1))], (1:Int))].length ≤ bound) <|
    rq (i64 (0 - ((1:Int) + r3_.1))) <|
    rq ([([((1:Int), (0 - ((1:Int) + r3_.1)))], (1:Int))].length + (r1_.2 ++ [([((1:Int), ((1:Int) + r3_.1))], (1:Int))]).length ≤ bound) <|
    some (r3_.2, ([([((1:Int), (0 - ((1:Int) + r3_.1)))], (1:Int))] ++ (r1_.2 ++ [([((1:Int), ((1:Int) + r3_.1))], (1:Int))])))) (
    some (r2_.2, r1_.2))

/-- spec.l1Copy -/
noncomputable def spec_l1Copy (c_ : (List (Int × Int)) × Int) : Option (Int × (List (Int × Int))) :=
  rq (([] : List (Int × Int)).length + c_.1.length ≤ bound) <|
  some (c_.2, (([] : List (Int × Int)) ++ c_.1))

/-- spec.l1Mutate -/
noncomputable def spec_l1Mutate (c_ : (List (Int × Int)) × Int) (r_ : (List Int) × Int) : Option (((List Int) × Int) × Int × (List (Int × Int))) :=
  (spec_l1Copy c_).bind fun r1_ =>
  (spec_l17Rd_pick (40:Int) r_).bind fun r2_ =>
  cond (r2_.1 == (0:Int)) (
    (spec_l17Rd_num [(-1:Int), (20001:Int), (9223372036854775807:Int)] r2_.2).bind fun r3_ =>
    some (r3_.2, r3_.1, r1_.2)) (
    cond (r2_.1 == (1:Int)) (
      cond (decide ((0:Int) < (r1_.2.length:Int))) (
        (spec_l17Rd_num [(0:Int), (-1:Int), (1001:Int)] r2_.2).bind fun r5_ =>
        rq (0 ≤ (0:Int) ∧ (0:Int) < r1_.2.length) <|
        some (r5_.2, r1_.1, (r1_.2.set (0:Int).toNat (r5_.1, (r1_.2.getD (0:Int).toNat (0, 0)).2)))) (
        some (r2_.2, r1_.1, r1_.2))) (
      cond (r2_.1 == (2:Int)) (
        cond (decide ((0:Int) < (r1_.2.length:Int))) (
          rq (i64 ((r1_.2.length:Int) - (1:Int))) <|
          (spec_l17Rd_num [(0:Int), (13:Int), (-13:Int), (1:Int), (-9223372036854775808:Int)] r2_.2).bind fun r7_ =>
          rq (0 ≤ ((r1_.2.length:Int) - (1:Int)) ∧ ((r1_.2.length:Int) - (1:Int)) < r1_.2.length) <|
          some (r7_.2, r1_.1, (r1_.2.set ((r1_.2.length:Int) - (1:Int)).toNat ((r1_.2.getD ((r1_.2.length:Int) - (1:Int)).toNat (0, 0)).1, r7_.1)))) (
          some (r2_.2, r1_.1, r1_.2))) (
        cond (r2_.1 == (3:Int)) (
          rq (r1_.2.length + [((1:Int), (1:Int))].length ≤ bound) <|
          some (r2_.2, r1_.1, (r1_.2 ++ [((1:Int), (1:Int))]))) (
          some (r2_.2, r1_.1, r1_.2)))))

/-- spec.l3Mutate -/
noncomputable def spec_l3Mutate (list_ : List ((List (Int × Int)) × Int)) (r_ : (List Int) × Int) : Option (((List Int) × Int) × (List ((List (Int × Int)) × Int))) :=
  rq (([] : List ((List (Int × Int)) × Int)).length + list_.length ≤ bound) <|
  cond (decide ((0:Int) < ((([] : List ((List (Int × Int)) × Int)) ++ list_).length:Int))) (
    (spec_l17Rd_pick (20:Int) r_).bind fun r1_ =>
    cond (r1_.1 == (0:Int)) (
      (spec_l17Rd_pick ((([] : List ((List (Int × Int)) × Int)) ++ list_).length:Int) r1_.2).bind fun r2_ =>
      rq (0 ≤ r2_.1 ∧ r2_.1 < (([] : List ((List (Int × Int)) × Int)) ++ list_).length) <|
      (spec_l1Mutate ((([] : List ((List (Int × Int)) × Int)) ++ list_).getD r2_.1.toNat ([], 0)) r2_.2).bind fun r3_ =>
      (spec_l1Mutate (r3_.2.2, r3_.2.1) r3_.1).bind fun r4_ =>
      (spec_l1Mutate (r4_.2.2, r4_.2.1) r4_.1).bind fun r5_ =>
      rq (0 ≤ r2_.1 ∧ r2_.1 < (([] : List ((List (Int × Int)) × Int)) ++ list_).length) <|
      some (r5_.1, ((([] : List ((List (Int × Int)) × Int)) ++ list_).set r2_.1.toNat (r5_.2.2, r5_.2.1)))) (
      some (r1_.2, (([] : List ((List (Int × Int)) × Int)) ++ list_)))) (
    some (r_, (([] : List ((List (Int × Int)) × Int)) ++ list_)))

/-- spec.DrawMinimalCore -/
noncomputable def spec_DrawMinimalCore (code : List Int) : Option ((List ((List (Int × Int)) × Int))) :=
  (spec_l17Open code).bind fun r1_ =>
  (spec_l11Closed r1_).bind fun r2_ =>
  (spec_l3Mutate r2_.2 r2_.1).bind fun r3_ =>
  some r3_.2

/-- impl.within -/
noncomputable def impl_within (n : Int) (low : Int) (high : Int) : Option Bool :=
  cond (decide (low ≤ n)) (
    some (decide (n ≤ high))) (
    some false)

/-- impl.isLiteral -/
noncomputable def impl_isLiteral (l : Int) : Option Bool :=
  cond (l != (0:Int)) (
    (impl_within l (-12:Int) (12:Int)).bind fun r1_ =>
    some r1_) (
    some false)

/-- impl.variableOf -/
noncomputable def impl_variableOf (l : Int) : Option Int :=
  rq (i64 (0 - l)) <|
  some (max l (0 - l))

/-- impl.ConstraintValid -/
noncomputable def impl_ConstraintValid_l1 (c_ : (List (Int × Int)) × Int) : Int × Int → Option ((Int × Int) ⊕ Bool) := fun (before, i) =>
  cond (decide (i < (c_.1.length:Int))) (
    rq (0 ≤ i ∧ i < c_.1.length) <|
    (impl_isLiteral (c_.1.getD i.toNat (0, 0)).2).bind fun r1_ =>
    cond (!r1_) (
      some (.inr false)) (
      (impl_variableOf (c_.1.getD i.toNat (0, 0)).2).bind fun r2_ =>
      cond (decide (r2_ ≤ before)) (
        some (.inr false)) (
        (impl_within (c_.1.getD i.toNat (0, 0)).1 (1:Int) (1000:Int)).bind fun r3_ =>
        cond (!r3_) (
          some (.inr false)) (
          (impl_variableOf (c_.1.getD i.toNat (0, 0)).2).bind fun r4_ =>
          rq (i64 (i + (1:Int))) <|
          some (.inl (r4_, (i + (1:Int)))))))) (
    (impl_within c_.2 (0:Int) (20000:Int)).bind fun r5_ =>
    some (.inr r5_))

noncomputable def impl_ConstraintValid (c_ : (List (Int × Int)) × Int) : Option Bool :=
  loop (impl_ConstraintValid_l1 c_) ((0:Int), (0:Int))

/-- impl.allValid$1 -/
noncomputable def impl_allValid_1 (c_ : (List (Int × Int)) × Int) : Option Bool :=
  (impl_ConstraintValid c_).bind fun r1_ =>
  some (!r1_)

/-- slices.IndexFunc[[]impl.Constraint,impl.Constraint] -/
noncomputable def slices_IndexFunc_impl_Constraint__impl_allValid_1_l1 (s_ : List ((List (Int × Int)) × Int)) : Int → Option (Int ⊕ Int) := fun i =>
  cond (decide (i < (s_.length:Int))) (
    rq (0 ≤ i ∧ i < s_.length) <|
    (impl_allValid_1 (s_.getD i.toNat ([], 0))).bind fun r1_ =>
    cond r1_ (
      some (.inr i)) (
      rq (i64 (i + (1:Int))) <|
      some (.inl (i + (1:Int))))) (
    some (.inr (-1:Int)))

noncomputable def slices_IndexFunc_impl_Constraint__impl_allValid_1 (s_ : List ((List (Int × Int)) × Int)) : Option Int :=
  loop (slices_IndexFunc_impl_Constraint__impl_allValid_1_l1 s_) (0:Int)

/-- slices.ContainsFunc[[]impl.Constraint,impl.Constraint] -/
noncomputable def slices_ContainsFunc_impl_Constraint__impl_allValid_1 (s_ : List ((List (Int × Int)) × Int)) : Option Bool :=
  (slices_IndexFunc_impl_Constraint__impl_allValid_1 s_).bind fun r1_ =>
  some (decide ((0:Int) ≤ r1_))

/-- impl.allValid -/
noncomputable def impl_allValid (list_ : List ((List (Int × Int)) × Int)) : Option Bool :=
  (slices_ContainsFunc_impl_Constraint__impl_allValid_1 list_).bind fun r1_ =>
  some (!r1_)

/-- impl.ProblemValid -/
noncomputable def impl_ProblemValid (list_ : List ((List (Int × Int)) × Int)) : Option Bool :=
  cond (decide ((list_.length:Int) ≤ (400:Int))) (
    (impl_allValid list_).bind fun r1_ =>
    some r1_) (
    some false)

/-- impl.numbered -/
noncomputable def impl_numbered_l1 (n : Int) : Int × (List Bool) → Option ((Int × (List Bool)) ⊕ (List Bool)) := fun (i, out) =>
  cond (decide (i < ((List.replicate (12:Int).toNat false).length:Int))) (
    rq (i64 ((11:Int) - i)) <|
    rq ((0 ≤ ((11:Int) - i) ∧ ((11:Int) - i) ≤ 62) ∧ 0 ≤ n) <|
    rq (0 ≤ (n / 2 ^ ((11:Int) - i).toNat) ∧ 0 ≤ (1:Int)) <|
    rq (0 ≤ i ∧ i < out.length) <|
    rq (i64 (i + (1:Int))) <|
    some (.inl ((i + (1:Int)), (out.set i.toNat ((((n / 2 ^ ((11:Int) - i).toNat).toNat &&& (1:Int).toNat : Nat) : Int) == (1:Int)))))) (
    some (.inr out))

noncomputable def impl_numbered (n : Int) : Option (List Bool) :=
  rq (0 ≤ (12:Int) ∧ (12:Int) ≤ bound ∧ (12:Int) = (12:Int)) <|
  loop (impl_numbered_l1 n) ((0:Int), (List.replicate (12:Int).toNat false))

/-- impl.holds -/
noncomputable def impl_holds (l : Int) (values : List Bool) : Option Bool :=
  (impl_variableOf l).bind fun r1_ =>
  rq (i64 (r1_ - (1:Int))) <|
  rq (0 ≤ (r1_ - (1:Int)) ∧ (r1_ - (1:Int)) < values.length) <|
  some ((values.getD (r1_ - (1:Int)).toNat false) == (decide ((0:Int) < l)))

/-- (impl.Constraint).holds -/
noncomputable def impl_Constraint_holds_l1 (c_ : (List (Int × Int)) × Int) (values : List Bool) : Int × Int → Option ((Int × Int) ⊕ Bool) := fun (sum, i) =>
  cond (decide (i < (c_.1.length:Int))) (
    rq (0 ≤ i ∧ i < c_.1.length) <|
    (impl_holds (c_.1.getD i.toNat (0, 0)).2 values).bind fun r1_ =>
    cond r1_ (
      rq (i64 (sum + (c_.1.getD i.toNat (0, 0)).1)) <|
      rq (i64 (i + (1:Int))) <|
      some (.inl ((sum + (c_.1.getD i.toNat (0, 0)).1), (i + (1:Int))))) (
      rq (i64 (i + (1:Int))) <|
      some (.inl (sum, (i + (1:Int)))))) (
    some (.inr (decide (c_.2 ≤ sum))))

noncomputable def impl_Constraint_holds (c_ : (List (Int × Int)) × Int) (values : List Bool) : Option Bool :=
  loop (impl_Constraint_holds_l1 c_ values) ((0:Int), (0:Int))

/-- impl.satisfies$1 -/
noncomputable def impl_satisfies_1 (c_ : (List (Int × Int)) × Int) (o0 : List Bool) : Option Bool :=
  (impl_Constraint_holds c_ o0).bind fun r1_ =>
  some (!r1_)

/-- slices.IndexFunc[[]impl.Constraint,impl.Constraint] -/
noncomputable def slices_IndexFunc_impl_Constraint__impl_satisfies_1_l1 (s_ : List ((List (Int × Int)) × Int)) (o0 : List Bool) : Int → Option (Int ⊕ Int) := fun i =>
  cond (decide (i < (s_.length:Int))) (
    rq (0 ≤ i ∧ i < s_.length) <|
    (impl_satisfies_1 (s_.getD i.toNat ([], 0)) o0).bind fun r1_ =>
    cond r1_ (
      some (.inr i)) (
      rq (i64 (i + (1:Int))) <|
      some (.inl (i + (1:Int))))) (
    some (.inr (-1:Int)))

noncomputable def slices_IndexFunc_impl_Constraint__impl_satisfies_1 (s_ : List ((List (Int × Int)) × Int)) (o0 : List Bool) : Option Int :=
  loop (slices_IndexFunc_impl_Constraint__impl_satisfies_1_l1 s_ o0) (0:Int)

/-- slices.ContainsFunc[[]impl.Constraint,impl.Constraint] -/
noncomputable def slices_ContainsFunc_impl_Constraint__impl_satisfies_1 (s_ : List ((List (Int × Int)) × Int)) (o0 : List Bool) : Option Bool :=
  (slices_IndexFunc_impl_Constraint__impl_satisfies_1 s_ o0).bind fun r1_ =>
  some (decide ((0:Int) ≤ r1_))

/-- impl.satisfies -/
noncomputable def impl_satisfies (list_ : List ((List (Int × Int)) × Int)) (values : List Bool) : Option Bool :=
  (slices_ContainsFunc_impl_Constraint__impl_satisfies_1 list_ values).bind fun r1_ =>
  some (!r1_)

/-- impl.solvable -/
noncomputable def impl_solvable_l1 (list_ : List ((List (Int × Int)) × Int)) : Int → Option (Int ⊕ Bool) := fun i =>
  cond (decide (i < (4096:Int))) (
    (impl_numbered i).bind fun r1_ =>
    (impl_satisfies list_ r1_).bind fun r2_ =>
    cond r2_ (
      some (.inr true)) (
      rq (i64 (i + (1:Int))) <|
      some (.inl (i + (1:Int))))) (
    some (.inr false))

noncomputable def impl_solvable (list_ : List ((List (Int × Int)) × Int)) : Option Bool :=
  loop (impl_solvable_l1 list_) (0:Int)

/-- impl.indices -/
noncomputable def impl_indices_l1 (count : Int) : Int × (List Int) → Option ((Int × (List Int)) ⊕ (List Int)) := fun (i, out) =>
  cond (decide (i < count)) (
    rq (out.length + [i].length ≤ bound) <|
    rq (i64 (i + (1:Int))) <|
    some (.inl ((i + (1:Int)), (out ++ [i])))) (
    some (.inr out))

noncomputable def impl_indices (count : Int) : Option (List Int) :=
  loop (impl_indices_l1 count) ((0:Int), ([] : List Int))

/-- slices.Clone[[]int,int] -/
noncomputable def slices_Clone_int (s_ : List Int) : Option (List Int) :=
  nt (s_ = []) (
    some ([] : List Int)) (
    rq (([] : List Int).length + s_.length ≤ bound) <|
    some (([] : List Int) ++ s_))

/-- impl.without$1 -/
noncomputable def impl_without_1 (n : Int) (o0 : Int) : Option Bool :=
  some (n == o0)

/-- slices.IndexFunc[[]int,int] -/
noncomputable def slices_IndexFunc_int__impl_without_1_l1 (s_ : List Int) (o0 : Int) : Int → Option (Int ⊕ Int) := fun i =>
  cond (decide (i < (s_.length:Int))) (
    rq (0 ≤ i ∧ i < s_.length) <|
    (impl_without_1 (s_.getD i.toNat 0) o0).bind fun r1_ =>
    cond r1_ (
      some (.inr i)) (
      rq (i64 (i + (1:Int))) <|
      some (.inl (i + (1:Int))))) (
    some (.inr (-1:Int)))

noncomputable def slices_IndexFunc_int__impl_without_1 (s_ : List Int) (o0 : Int) : Option Int :=
  loop (slices_IndexFunc_int__impl_without_1_l1 s_ o0) (0:Int)

/-- slices.DeleteFunc[[]int,int] -/
noncomputable def slices_DeleteFunc_int__impl_without_1_j1 : Int × (List Int) → Option (List Int) := fun (i1, s_2) =>
  rq (0 ≤ i1 ∧ i1 ≤ s_2.length) <|
  rq (0 ≤ i1 ∧ i1 ≤ (s_2.take i1.toNat ++ List.replicate (s_2.length - i1.toNat) (0:Int)).length) <|
  some ((s_2.take i1.toNat ++ List.replicate (s_2.length - i1.toNat) (0:Int)).take i1.toNat)

noncomputable def slices_DeleteFunc_int__impl_without_1_l1 (o0 : Int) : Int × Int × (List Int) → Option ((Int × Int × (List Int)) ⊕ (List Int)) := fun (i, j, s_1) =>
  cond (decide (j < (s_1.length:Int))) (
    rq (0 ≤ j ∧ j < s_1.length) <|
    (impl_without_1 (s_1.getD j.toNat 0) o0).bind fun r3_ =>
    cond (!r3_) (
      rq (0 ≤ i ∧ i < s_1.length) <|
      rq (i64 (i + (1:Int))) <|
      rq (i64 (j + (1:Int))) <|
      some (.inl ((i + (1:Int)), (j + (1:Int)), (s_1.set i.toNat (s_1.getD j.toNat 0))))) (
      rq (i64 (j + (1:Int))) <|
      some (.inl (i, (j + (1:Int)), s_1)))) (
    up (slices_DeleteFunc_int__impl_without_1_j1 (i, s_1)))

noncomputable def slices_DeleteFunc_int__impl_without_1 (o0 : Int) (s_ : List Int) : Option (List Int) :=
  (slices_IndexFunc_int__impl_without_1 s_ o0).bind fun r1_ =>
  cond (r1_ == (-1:Int)) (
    some s_) (
    rq (i64 (r1_ + (1:Int))) <|
    loop (slices_DeleteFunc_int__impl_without_1_l1 o0) (r1_, (r1_ + (1:Int)), s_))

/-- impl.without -/
noncomputable def impl_without (list_ : List Int) (k_ : Int) : Option (List Int) :=
  (slices_Clone_int list_).bind fun r1_ =>
  (slices_DeleteFunc_int__impl_without_1 k_ r1_).bind fun r2_ =>
  some r2_

/-- impl.partOf -/
noncomputable def impl_partOf_l1 (list_ : List ((List (Int × Int)) × Int)) (keep : List Int) : Int × (List ((List (Int × Int)) × Int)) → Option ((Int × (List ((List (Int × Int)) × Int))) ⊕ ((List ((List (Int × Int)) × Int)))) := fun (i, out) =>
  cond (decide (i < (keep.length:Int))) (
    rq (0 ≤ i ∧ i < keep.length) <|
    rq (0 ≤ (keep.getD i.toNat 0) ∧ (keep.getD i.toNat 0) < list_.length) <|
    rq (out.length + [(list_.getD (keep.getD i.toNat 0).toNat ([], 0))].length ≤ bound) <|
    rq (i64 (i + (1:Int))) <|
    some (.inl ((i + (1:Int)), (out ++ [(list_.getD (keep.getD i.toNat 0).toNat ([], 0))])))) (
    some (.inr out))

noncomputable def impl_partOf (list_ : List ((List (Int × Int)) × Int)) (keep : List Int) : Option ((List ((List (Int × Int)) × Int))) :=
  loop (impl_partOf_l1 list_ keep) ((0:Int), ([] : List ((List (Int × Int)) × Int)))

/-- impl.partOf -/
noncomputable def impl_partOf__s_l1 (list_ : List ((List (Int × Int)) × Int)) (keep : List Int) : Int × (List ((List (Int × Int)) × Int)) → Option ((Int × (List ((List (Int × Int)) × Int))) ⊕ ((List ((List (Int × Int)) × Int)))) := fun (i, out) =>
  cond (decide (i < (keep.length:Int))) (
    rq (0 ≤ i ∧ i < keep.length) <|
    rq (0 ≤ (keep.getD i.toNat 0) ∧ (keep.getD i.toNat 0) < list_.length) <|
    rq (out.length + [(list_.getD (keep.getD i.toNat 0).toNat ([], 0))].length ≤ bound) <|
    rq (i64 (i + (1:Int))) <|
    some (.inl ((i + (1:Int)), (out ++ [(list_.getD (keep.getD i.toNat 0).toNat ([], 0))])))) (
    some (.inr out))

noncomputable def impl_partOf__s (list_ : List ((List (Int × Int)) × Int)) (keep : List Int) : Option ((List ((List (Int × Int)) × Int))) :=
  loop (impl_partOf__s_l1 list_ keep) ((0:Int), ([] : List ((List (Int × Int)) × Int)))

/-- impl.MinimalCore -/
noncomputable def impl_MinimalCore_l1 (list_ : List ((List (Int × Int)) × Int)) : Int × (List Int) → Option ((Int × (List Int)) ⊕ (Bool × (List Int))) := fun (k_, out) =>
  cond (decide ((0:Int) ≤ k_)) (
    (impl_without out k_).bind fun r7_ =>
    (impl_partOf__s list_ r7_).bind fun r8_ =>
    (impl_solvable r8_).bind fun r9_ =>
    cond (!r9_) (
      rq (i64 (k_ - (1:Int))) <|
      some (.inl ((k_ - (1:Int)), r7_))) (
      rq (i64 (k_ - (1:Int))) <|
      some (.inl ((k_ - (1:Int)), out)))) (
    some (.inr (true, out)))

noncomputable def impl_MinimalCore (list_ : List ((List (Int × Int)) × Int)) : Option (Bool × (List Int)) :=
  (impl_ProblemValid list_).bind fun r1_ =>
  cond (!r1_) (
    some (false, ([] : List Int))) (
    (impl_solvable list_).bind fun r2_ =>
    cond r2_ (
      some (false, ([] : List Int))) (
      (impl_indices (list_.length:Int)).bind fun r3_ =>
      rq (i64 ((list_.length:Int) - (1:Int))) <|
      loop (impl_MinimalCore_l1 list_) (((list_.length:Int) - (1:Int)), r3_)))

/-- spec.l1Lit -/
noncomputable def spec_l1Lit (n : Int) : Option Bool :=
  cond (n != (0:Int)) (
    cond (decide ((-12:Int) ≤ n)) (
      some (decide (n ≤ (12:Int)))) (
      some false)) (
    some false)

/-- spec.l1Abs -/
noncomputable def spec_l1Abs (n : Int) : Option Int :=
  cond (decide (n < (0:Int))) (
    rq (i64 (0 - n)) <|
    some (0 - n)) (
    some n)

/-- spec.ConstraintValid -/
noncomputable def spec_ConstraintValid_l1 (c_ : (List (Int × Int)) × Int) : Int → Option (Int ⊕ Bool) := fun i =>
  cond (decide (i < (c_.1.length:Int))) (
    rq (0 ≤ i ∧ i < c_.1.length) <|
    (spec_l1Lit (c_.1.getD i.toNat (0, 0)).2).bind fun r4_ =>
    cond (!r4_) (
      some (.inr false)) (
      cond (decide ((c_.1.getD i.toNat (0, 0)).1 < (1:Int))) (
        some (.inr false)) (
        cond (decide ((1000:Int) < (c_.1.getD i.toNat (0, 0)).1)) (
          some (.inr false)) (
          cond (decide ((0:Int) < i)) (
            rq (i64 (i - (1:Int))) <|
            rq (0 ≤ (i - (1:Int)) ∧ (i - (1:Int)) < c_.1.length) <|
            (spec_l1Abs (c_.1.getD (i - (1:Int)).toNat (0, 0)).2).bind fun r5_ =>
            (spec_l1Abs (c_.1.getD i.toNat (0, 0)).2).bind fun r6_ =>
            cond (decide (r6_ ≤ r5_)) (
              some (.inr false)) (
              rq (i64 (i + (1:Int))) <|
              some (.inl (i + (1:Int))))) (
            rq (i64 (i + (1:Int))) <|
            some (.inl (i + (1:Int)))))))) (
    cond (decide ((0:Int) ≤ c_.2)) (
      some (.inr (decide (c_.2 ≤ (20000:Int))))) (
      some (.inr false)))

noncomputable def spec_ConstraintValid (c_ : (List (Int × Int)) × Int) : Option Bool :=
  loop (spec_ConstraintValid_l1 c_) (0:Int)

/-- spec.ProblemValid -/
noncomputable def spec_ProblemValid_l1 (list_ : List ((List (Int × Int)) × Int)) : Int → Option (Int ⊕ Bool) := fun i =>
  cond (decide (i < (list_.length:Int))) (
    rq (0 ≤ i ∧ i < list_.length) <|
    (spec_ConstraintValid (list_.getD i.toNat ([], 0))).bind fun r1_ =>
    cond (!r1_) (
      some (.inr false)) (
      rq (i64 (i + (1:Int))) <|
      some (.inl (i + (1:Int))))) (
    some (.inr (decide ((list_.length:Int) ≤ (400:Int)))))

noncomputable def spec_ProblemValid (list_ : List ((List (Int × Int)) × Int)) : Option Bool :=
  loop (spec_ProblemValid_l1 list_) (0:Int)

/-- spec.l5Number -/
noncomputable def spec_l5Number_l1 (values : List Bool) : Int × Int → Option ((Int × Int) ⊕ Int) := fun (n, i) =>
  cond (decide (i < (values.length:Int))) (
    rq (i64 (n * (2:Int))) <|
    rq (0 ≤ i ∧ i < values.length) <|
    cond (values.getD i.toNat false) (
      rq (i64 ((n * (2:Int)) + (1:Int))) <|
      rq (i64 (i + (1:Int))) <|
      some (.inl (((n * (2:Int)) + (1:Int)), (i + (1:Int))))) (
      rq (i64 (i + (1:Int))) <|
      some (.inl ((n * (2:Int)), (i + (1:Int)))))) (
    some (.inr n))

noncomputable def spec_l5Number (values : List Bool) : Option Int :=
  loop (spec_l5Number_l1 values) ((0:Int), (0:Int))

/-- spec.l5Values -/
noncomputable def spec_l5Values_l1 : Int × Int × (List Bool) → Option ((Int × Int × (List Bool)) ⊕ (List Bool)) := fun (n1, i, out) =>
  cond (decide ((0:Int) ≤ i)) (
    rq (1 ≤ (2:Int) ∧ 0 ≤ n1) <|
    rq (0 ≤ i ∧ i < out.length) <|
    rq (1 ≤ (2:Int) ∧ 0 ≤ n1) <|
    rq (i64 (i - (1:Int))) <|
    some (.inl ((n1 / (2:Int)), (i - (1:Int)), (out.set i.toNat ((n1 % (2:Int)) == (1:Int)))))) (
    some (.inr out))

noncomputable def spec_l5Values (n : Int) : Option (List Bool) :=
  rq (0 ≤ (12:Int) ∧ (12:Int) ≤ bound ∧ (12:Int) = (12:Int)) <|
  loop (spec_l5Values_l1) (n, (11:Int), (List.replicate (12:Int).toNat false))

/-- spec.l1True -/
noncomputable def spec_l1True (values : List Bool) (lit : Int) : Option Bool :=
  cond (decide ((0:Int) < lit)) (
    rq (i64 (lit - (1:Int))) <|
    rq (0 ≤ (lit - (1:Int)) ∧ (lit - (1:Int)) < values.length) <|
    some (values.getD (lit - (1:Int)).toNat false)) (
    rq (i64 (0 - lit)) <|
    rq (i64 ((0 - lit) - (1:Int))) <|
    rq (0 ≤ ((0 - lit) - (1:Int)) ∧ ((0 - lit) - (1:Int)) < values.length) <|
    some (!(values.getD ((0 - lit) - (1:Int)).toNat false)))

/-- spec.l1Eval -/
noncomputable def spec_l1Eval_l1 (c_ : (List (Int × Int)) × Int) (values : List Bool) : Int × Int → Option ((Int × Int) ⊕ Bool) := fun (n, i) =>
  cond (decide (i < (c_.1.length:Int))) (
    rq (0 ≤ i ∧ i < c_.1.length) <|
    (spec_l1True values (c_.1.getD i.toNat (0, 0)).2).bind fun r1_ =>
    cond r1_ (
      rq (0 ≤ i ∧ i < c_.1.length) <|
      rq (i64 (n + (c_.1.getD i.toNat (0, 0)).1)) <|
      rq (i64 (i + (1:Int))) <|
      some (.inl ((n + (c_.1.getD i.toNat (0, 0)).1), (i + (1:Int))))) (
      rq (i64 (i + (1:Int))) <|
      some (.inl (n, (i + (1:Int)))))) (
    some (.inr (decide (c_.2 ≤ n))))

noncomputable def spec_l1Eval (c_ : (List (Int × Int)) × Int) (values : List Bool) : Option Bool :=
  loop (spec_l1Eval_l1 c_ values) ((0:Int), (0:Int))

/-- spec.l3All -/
noncomputable def spec_l3All_l1 (list_ : List ((List (Int × Int)) × Int)) (values : List Bool) : Int → Option (Int ⊕ Bool) := fun i =>
  cond (decide (i < (list_.length:Int))) (
    rq (0 ≤ i ∧ i < list_.length) <|
    (spec_l1Eval (list_.getD i.toNat ([], 0)) values).bind fun r1_ =>
    cond (!r1_) (
      some (.inr false)) (
      rq (i64 (i + (1:Int))) <|
      some (.inl (i + (1:Int))))) (
    some (.inr true))

noncomputable def spec_l3All (list_ : List ((List (Int × Int)) × Int)) (values : List Bool) : Option Bool :=
  loop (spec_l3All_l1 list_ values) (0:Int)

/-- spec.NextSolution -/
noncomputable def spec_NextSolution_l1 (list_ : List ((List (Int × Int)) × Int)) : Int → Option (Int ⊕ (Bool × (List Bool))) := fun k_ =>
  cond (decide (k_ < (4096:Int))) (
    (spec_l5Values k_).bind fun r3_ =>
    (spec_l3All list_ r3_).bind fun r4_ =>
    cond r4_ (
      (spec_l5Values k_).bind fun r5_ =>
      some (.inr (true, r5_))) (
      rq (i64 (k_ + (1:Int))) <|
      some (.inl (k_ + (1:Int))))) (
    some (.inr (false, ([] : List Bool))))

noncomputable def spec_NextSolution (list_ : List ((List (Int × Int)) × Int)) (values : List Bool) : Option (Bool × (List Bool)) :=
  (spec_ProblemValid list_).bind fun r1_ =>
  cond (!r1_) (
    some (false, ([] : List Bool))) (
    cond ((values.length:Int) != (12:Int)) (
      some (false, ([] : List Bool))) (
      (spec_l5Number values).bind fun r2_ =>
      loop (spec_NextSolution_l1 list_) r2_))

/-- spec.l11Open -/
noncomputable def spec_l11Open (list_ : List ((List (Int × Int)) × Int)) : Option Bool :=
  rq (0 ≤ (12:Int) ∧ (12:Int) ≤ bound ∧ (12:Int) = (12:Int)) <|
  (spec_NextSolution list_ (List.replicate (12:Int).toNat false)).bind fun r1_ =>
  some r1_.1

/-- spec.l11Count -/
noncomputable def spec_l11Count_l1 (n : Int) : Int × (List Int) → Option ((Int × (List Int)) ⊕ (List Int)) := fun (i, out) =>
  cond (decide (i < n)) (
    rq (out.length + [i].length ≤ bound) <|
    rq (i64 (i + (1:Int))) <|
    some (.inl ((i + (1:Int)), (out ++ [i])))) (
    some (.inr out))

noncomputable def spec_l11Count (n : Int) : Option (List Int) :=
  loop (spec_l11Count_l1 n) ((0:Int), ([] : List Int))

/-- spec.l11Without -/
noncomputable def spec_l11Without (list_ : List Int) (at_ : Int) : Option (List Int) :=
  rq (i64 (at_ + (1:Int))) <|
  rq (0 ≤ at_ ∧ at_ ≤ list_.length) <|
  rq (([] : List Int).length + (list_.take at_.toNat).length ≤ bound) <|
  rq (0 ≤ (at_ + (1:Int)) ∧ (at_ + (1:Int)) ≤ list_.length) <|
  rq ((([] : List Int) ++ (list_.take at_.toNat)).length + (list_.drop (at_ + (1:Int)).toNat).length ≤ bound) <|
  some ((([] : List Int) ++ (list_.take at_.toNat)) ++ (list_.drop (at_ + (1:Int)).toNat))

/-- spec.l11Sub -/
noncomputable def spec_l11Sub_l1 (list_ : List ((List (Int × Int)) × Int)) (keep : List Int) : Int × (List ((List (Int × Int)) × Int)) → Option ((Int × (List ((List (Int × Int)) × Int))) ⊕ ((List ((List (Int × Int)) × Int)))) := fun (i, out) =>
  cond (decide (i < (keep.length:Int))) (
    rq (0 ≤ i ∧ i < keep.length) <|
    rq (0 ≤ (keep.getD i.toNat 0) ∧ (keep.getD i.toNat 0) < list_.length) <|
    (spec_l1Copy (list_.getD (keep.getD i.toNat 0).toNat ([], 0))).bind fun r2_ =>
    rq (out.length + [(r2_.2, r2_.1)].length ≤ bound) <|
    rq (i64 (i + (1:Int))) <|
    some (.inl ((i + (1:Int)), (out ++ [(r2_.2, r2_.1)])))) (
    some (.inr out))

noncomputable def spec_l11Sub (list_ : List ((List (Int × Int)) × Int)) (keep : List Int) : Option ((List ((List (Int × Int)) × Int))) :=
  loop (spec_l11Sub_l1 list_ keep) ((0:Int), ([] : List ((List (Int × Int)) × Int)))

/-- spec.MinimalCore -/
noncomputable def spec_MinimalCore_l2 (list_ : List ((List (Int × Int)) × Int)) (i : Int) : Int × (List Int) → Option ((Int × (List Int)) ⊕ ((Int × (List Int)) ⊕ (Bool × (List Int)))) := fun (k_1, keep2) =>
  cond (decide (k_1 < (keep2.length:Int))) (
    rq (0 ≤ k_1 ∧ k_1 < keep2.length) <|
    cond ((keep2.getD k_1.toNat 0) == i) (
      (spec_l11Without keep2 k_1).bind fun r16_ =>
      (spec_l11Sub list_ r16_).bind fun r17_ =>
      (spec_l11Open r17_).bind fun r18_ =>
      cond (!r18_) (
        (spec_l11Without keep2 k_1).bind fun r19_ =>
        rq (i64 (k_1 + (1:Int))) <|
        some (.inl ((k_1 + (1:Int)), r19_))) (
        rq (i64 (k_1 + (1:Int))) <|
        some (.inl ((k_1 + (1:Int)), keep2)))) (
      rq (i64 (k_1 + (1:Int))) <|
      some (.inl ((k_1 + (1:Int)), keep2)))) (
    rq (i64 (i - (1:Int))) <|
    some (.inr (.inl ((i - (1:Int)), keep2))))

noncomputable def spec_MinimalCore_l1 (list_ : List ((List (Int × Int)) × Int)) : Int × (List Int) → Option ((Int × (List Int)) ⊕ (Bool × (List Int))) := fun (i, keep1) =>
  cond (decide ((0:Int) ≤ i)) (
    loop (spec_MinimalCore_l2 list_ i) ((0:Int), keep1)) (
    some (.inr (true, keep1)))

noncomputable def spec_MinimalCore (list_ : List ((List (Int × Int)) × Int)) : Option (Bool × (List Int)) :=
  (spec_ProblemValid list_).bind fun r1_ =>
  cond (!r1_) (
    some (false, ([] : List Int))) (
    (spec_l11Open list_).bind fun r2_ =>
    cond r2_ (
      some (false, ([] : List Int))) (
      (spec_l11Count (list_.length:Int)).bind fun r3_ =>
      rq (i64 ((list_.length:Int) - (1:Int))) <|
      loop (spec_MinimalCore_l1 list_) (((list_.length:Int) - (1:Int)), r3_)))

/-- laws.cpInts -/
noncomputable def laws_cpInts_l1 (a : List Int) (b : List Int) : Int → Option (Int ⊕ Bool) := fun i =>
  cond (decide (i < (a.length:Int))) (
    rq (0 ≤ i ∧ i < a.length) <|
    rq (0 ≤ i ∧ i < b.length) <|
    cond ((a.getD i.toNat 0) != (b.getD i.toNat 0)) (
      some (.inr false)) (
      rq (i64 (i + (1:Int))) <|
      some (.inl (i + (1:Int))))) (
    some (.inr true))

noncomputable def laws_cpInts (a : List Int) (b : List Int) : Option Bool :=
  cond ((a.length:Int) != (b.length:Int)) (
    some false) (
    loop (laws_cpInts_l1 a b) (0:Int))

/-- impl.CountSolutions -/
noncomputable def impl_CountSolutions_l1 (list_ : List ((List (Int × Int)) × Int)) : Int × Int → Option ((Int × Int) ⊕ Int) := fun (count, i) =>
  cond (decide (i < (4096:Int))) (
    (impl_numbered i).bind fun r2_ =>
    (impl_satisfies list_ r2_).bind fun r3_ =>
    cond r3_ (
      rq (i64 (count + (1:Int))) <|
      rq (i64 (i + (1:Int))) <|
      some (.inl ((count + (1:Int)), (i + (1:Int))))) (
      rq (i64 (i + (1:Int))) <|
      some (.inl (count, (i + (1:Int)))))) (
    some (.inr count))

noncomputable def impl_CountSolutions (list_ : List ((List (Int × Int)) × Int)) : Option Int :=
  (impl_ProblemValid list_).bind fun r1_ =>
  cond (!r1_) (
    some (0:Int)) (
    loop (impl_CountSolutions_l1 list_) ((0:Int), (0:Int)))

/-- impl.isPart -/
noncomputable def impl_isPart_l1 (keep : List Int) (count : Int) : Int → Option (Int ⊕ Bool) := fun i =>
  cond (decide (i < (keep.length:Int))) (
    rq (0 ≤ i ∧ i < keep.length) <|
    rq (i64 (count - (1:Int))) <|
    (impl_within (keep.getD i.toNat 0) (0:Int) (count - (1:Int))).bind fun r1_ =>
    cond (!r1_) (
      some (.inr false)) (
      cond (decide ((0:Int) < i)) (
        rq (i64 (i - (1:Int))) <|
        rq (0 ≤ (i - (1:Int)) ∧ (i - (1:Int)) < keep.length) <|
        cond (decide ((keep.getD i.toNat 0) ≤ (keep.getD (i - (1:Int)).toNat 0))) (
          some (.inr false)) (
          rq (i64 (i + (1:Int))) <|
          some (.inl (i + (1:Int))))) (
        rq (i64 (i + (1:Int))) <|
        some (.inl (i + (1:Int)))))) (
    some (.inr true))

noncomputable def impl_isPart (keep : List Int) (count : Int) : Option Bool :=
  loop (impl_isPart_l1 keep count) (0:Int)

/-- slices.Clone[[]impl.Term,impl.Term] -/
noncomputable def slices_Clone_impl_Term (s_ : List (Int × Int)) : Option ((List (Int × Int))) :=
  nt (s_ = []) (
    some ([] : List (Int × Int))) (
    rq (([] : List (Int × Int)).length + s_.length ≤ bound) <|
    some (([] : List (Int × Int)) ++ s_))

/-- (impl.Constraint).own -/
noncomputable def impl_Constraint_own (c_ : (List (Int × Int)) × Int) : Option (Int × (List (Int × Int))) :=
  (slices_Clone_impl_Term c_.1).bind fun r1_ =>
  some (c_.2, r1_)

/-- impl.ownAll -/
noncomputable def impl_ownAll_l1 (list_ : List ((List (Int × Int)) × Int)) : Int × (List ((List (Int × Int)) × Int)) → Option ((Int × (List ((List (Int × Int)) × Int))) ⊕ ((List ((List (Int × Int)) × Int)))) := fun (i, out) =>
  cond (decide (i < (list_.length:Int))) (
    rq (0 ≤ i ∧ i < list_.length) <|
    (impl_Constraint_own (list_.getD i.toNat ([], 0))).bind fun r2_ =>
    rq (out.length + [(r2_.2, r2_.1)].length ≤ bound) <|
    rq (i64 (i + (1:Int))) <|
    some (.inl ((i + (1:Int)), (out ++ [(r2_.2, r2_.1)])))) (
    some (.inr out))

noncomputable def impl_ownAll (list_ : List ((List (Int × Int)) × Int)) : Option ((List ((List (Int × Int)) × Int))) :=
  loop (impl_ownAll_l1 list_) ((0:Int), ([] : List ((List (Int × Int)) × Int)))

/-- impl.SubProblem -/
noncomputable def impl_SubProblem (list_ : List ((List (Int × Int)) × Int)) (keep : List Int) : Option (Bool × (List ((List (Int × Int)) × Int))) :=
  (impl_ProblemValid list_).bind fun r1_ =>
  cond (!r1_) (
    some (false, ([] : List ((List (Int × Int)) × Int)))) (
    (impl_isPart keep (list_.length:Int)).bind fun r2_ =>
    cond (!r2_) (
      some (false, ([] : List ((List (Int × Int)) × Int)))) (
      (impl_partOf list_ keep).bind fun r3_ =>
      (impl_ownAll r3_).bind fun r4_ =>
      some (true, r4_)))

/-- impl.CoreMinimal$1 -/
noncomputable def impl_CoreMinimal_1__rRs (k_ : Int) (o0 : List ((List (Int × Int)) × Int)) (o2 : List Int) : Option Bool :=
  (impl_without o2 k_).bind fun r4_ =>
  (impl_partOf o0 r4_).bind fun r5_ =>
  (impl_solvable r5_).bind fun r6_ =>
  some (!r6_)

/-- slices.IndexFunc[[]int,int] -/
noncomputable def slices_IndexFunc_int__impl_CoreMinimal_1__rRs_l1 (o0 : List ((List (Int × Int)) × Int)) (s_ : List Int) : Int → Option (Int ⊕ Int) := fun i =>
  cond (decide (i < (s_.length:Int))) (
    rq (0 ≤ i ∧ i < s_.length) <|
    (impl_CoreMinimal_1__rRs (s_.getD i.toNat 0) o0 s_).bind fun r1_ =>
    cond r1_ (
      some (.inr i)) (
      rq (i64 (i + (1:Int))) <|
      some (.inl (i + (1:Int))))) (
    some (.inr (-1:Int)))

noncomputable def slices_IndexFunc_int__impl_CoreMinimal_1__rRs (o0 : List ((List (Int × Int)) × Int)) (s_ : List Int) : Option Int :=
  loop (slices_IndexFunc_int__impl_CoreMinimal_1__rRs_l1 o0 s_) (0:Int)

/-- slices.ContainsFunc[[]int,int] -/
noncomputable def slices_ContainsFunc_int__impl_CoreMinimal_1__rRs (o0 : List ((List (Int × Int)) × Int)) (s_ : List Int) : Option Bool :=
  (slices_IndexFunc_int__impl_CoreMinimal_1__rRs o0 s_).bind fun r1_ =>
  some (decide ((0:Int) ≤ r1_))

/-- impl.CoreMinimal -/
noncomputable def impl_CoreMinimal (list_ : List ((List (Int × Int)) × Int)) : Option Bool :=
  (impl_ProblemValid list_).bind fun r1_ =>
  cond (!r1_) (
    some false) (
    (impl_solvable list_).bind fun r2_ =>
    cond r2_ (
      some false) (
      (impl_indices (list_.length:Int)).bind fun r3_ =>
      (slices_ContainsFunc_int__impl_CoreMinimal_1__rRs list_ r3_).bind fun r4_ =>
      some (!r4_)))

/-- laws.FnMinimalCore -/
noncomputable def laws_FnMinimalCore (a0 : List Int) : Option Bool :=
  cond (decide ((1048576:Int) < (a0.length:Int))) (
    some true) (
    (spec_DrawMinimalCore a0).bind fun r1_ =>
    (impl_MinimalCore r1_).bind fun r2_ =>
    (spec_MinimalCore r1_).bind fun r3_ =>
    cond (r2_.1 != r3_.1) (
      cond (r2_.1 == r3_.1) (
        (laws_cpInts r2_.2 r3_.2).bind fun r8_ =>
        some r8_) (
        some false)) (
      (laws_cpInts r2_.2 r3_.2).bind fun r4_ =>
      cond (!r4_) (
        cond (r2_.1 == r3_.1) (
          (laws_cpInts r2_.2 r3_.2).bind fun r7_ =>
          some r7_) (
          some false)) (
        (impl_ProblemValid r1_).bind fun r5_ =>
        cond (!r5_) (
          cond (r2_.1 == r3_.1) (
            (laws_cpInts r2_.2 r3_.2).bind fun r6_ =>
            some r6_) (
            some false)) (
          cond (!r2_.1) (
            (impl_CountSolutions r1_).bind fun r9_ =>
            some (decide ((0:Int) < r9_))) (
            (impl_SubProblem r1_ r2_.2).bind fun r10_ =>
            cond r10_.1 (
              (impl_CoreMinimal r10_.2).bind fun r11_ =>
              cond r11_ (
                (impl_CountSolutions r10_.2).bind fun r12_ =>
                some (r12_ == (0:Int))) (
                some false)) (
              some false))))))

end Go.AE.Y
