/-
  Models of the functions: what each computes, as a Lean function into Option. Definitions alone.
-/
import Derived.Test.YtmpjmcflooeigaaAEModel
namespace Go.AE.Y
open Go Go.AE
set_option linter.unusedVariables false

/-- spec.l17Open -/
noncomputable def spec_l17Open_j1 : (List Int) → Option (((List Int) × Int)) := fun code1 =>
  some (code1, (0:Int))

noncomputable def spec_l17Open (code : List Int) : Option (((List Int) × Int)) :=
  cond (decide ((2000:Int) < (code.length:Int))) (
    rq (0 ≤ (2000:Int) ∧ (2000:Int) ≤ code.length) <|
    spec_l17Open_j1 (code.take (2000:Int).toNat)) (
    spec_l17Open_j1 code)

/-- (*spec.l17Rd).pick -/
noncomputable def spec_l17Rd_pick (a1 : Int) (o0 : (List Int) × Int) : Option (Int × ((List Int) × Int)) :=
  rq (i64 (o0.2 + (1:Int))) <|
  cond (decide (a1 < (1:Int))) (
    some ((0:Int), (o0.1, (o0.2 + (1:Int))))) (
    cond ((o0.1.length:Int) == (0:Int)) (
      some ((0:Int), (o0.1, (o0.2 + (1:Int))))) (
      rq (i64 ((o0.2 + (1:Int)) - (1:Int))) <|
      cond (decide (((o0.2 + (1:Int)) - (1:Int)) < (o0.1.length:Int))) (
        rq (0 ≤ ((o0.2 + (1:Int)) - (1:Int)) ∧ ((o0.2 + (1:Int)) - (1:Int)) < o0.1.length) <|
        rq (i64 (o0.1.getD ((o0.2 + (1:Int)) - (1:Int)).toNat 0)) <|
        rq (1 ≤ a1 ∧ 0 ≤ (o0.1.getD ((o0.2 + (1:Int)) - (1:Int)).toNat 0)) <|
        some (((o0.1.getD ((o0.2 + (1:Int)) - (1:Int)).toNat 0) % a1), (o0.1, (o0.2 + (1:Int))))) (
        rq (1 ≤ (o0.1.length:Int) ∧ 0 ≤ ((o0.2 + (1:Int)) - (1:Int))) <|
        rq (0 ≤ (((o0.2 + (1:Int)) - (1:Int)) % (o0.1.length:Int)) ∧ (((o0.2 + (1:Int)) - (1:Int)) % (o0.1.length:Int)) < o0.1.length) <|
        rq (i64 (o0.1.getD (((o0.2 + (1:Int)) - (1:Int)) % (o0.1.length:Int)).toNat 0)) <|
        rq (i64 ((o0.1.getD (((o0.2 + (1:Int)) - (1:Int)) % (o0.1.length:Int)).toNat 0) * (131:Int))) <|
        rq (i64 (((o0.2 + (1:Int)) - (1:Int)) * (7:Int))) <|
        rq (i64 ((((o0.2 + (1:Int)) - (1:Int)) * (7:Int)) + (3:Int))) <|
        rq (1 ≤ (o0.1.length:Int) ∧ 0 ≤ ((((o0.2 + (1:Int)) - (1:Int)) * (7:Int)) + (3:Int))) <|
        rq (0 ≤ (((((o0.2 + (1:Int)) - (1:Int)) * (7:Int)) + (3:Int)) % (o0.1.length:Int)) ∧ (((((o0.2 + (1:Int)) - (1:Int)) * (7:Int)) + (3:Int)) % (o0.1.length:Int)) < o0.1.length) <|
        rq (i64 (o0.1.getD (((((o0.2 + (1:Int)) - (1:Int)) * (7:Int)) + (3:Int)) % (o0.1.length:Int)).toNat 0)) <|
        rq (i64 ((o0.1.getD (((((o0.2 + (1:Int)) - (1:Int)) * (7:Int)) + (3:Int)) % (o0.1.length:Int)).toNat 0) * (1117:Int))) <|
        rq (i64 (((o0.1.getD (((o0.2 + (1:Int)) - (1:Int)) % (o0.1.length:Int)).toNat 0) * (131:Int)) + ((o0.1.getD (((((o0.2 + (1:Int)) - (1:Int)) * (7:Int)) + (3:Int)) % (o0.1.length:Int)).toNat 0) * (1117:Int)))) <|
        rq (i64 (((o0.2 + (1:Int)) - (1:Int)) * (29:Int))) <|
        rq (i64 ((((o0.1.getD (((o0.2 + (1:Int)) - (1:Int)) % (o0.1.length:Int)).toNat 0) * (131:Int)) + ((o0.1.getD (((((o0.2 + (1:Int)) - (1:Int)) * (7:Int)) + (3:Int)) % (o0.1.length:Int)).toNat 0) * (1117:Int))) + (((o0.2 + (1:Int)) - (1:Int)) * (29:Int)))) <|
        rq (1 ≤ (o0.1.length:Int) ∧ 0 ≤ ((o0.2 + (1:Int)) - (1:Int))) <|
        rq (i64 ((((o0.2 + (1:Int)) - (1:Int)) / (o0.1.length:Int)) * (53:Int))) <|
        rq (i64 (((((o0.1.getD (((o0.2 + (1:Int)) - (1:Int)) % (o0.1.length:Int)).toNat 0) * (131:Int)) + ((o0.1.getD (((((o0.2 + (1:Int)) - (1:Int)) * (7:Int)) + (3:Int)) % (o0.1.length:Int)).toNat 0) * (1117:Int))) + (((o0.2 + (1:Int)) - (1:Int)) * (29:Int))) + ((((o0.2 + (1:Int)) - (1:Int)) / (o0.1.length:Int)) * (53:Int)))) <|
        rq (1 ≤ (64:Int) ∧ 0 ≤ (((((o0.1.getD (((o0.2 + (1:Int)) - (1:Int)) % (o0.1.length:Int)).toNat 0) * (131:Int)) + ((o0.1.getD (((((o0.2 + (1:Int)) - (1:Int)) * (7:Int)) + (3:Int)) % (o0.1.length:Int)).toNat 0) * (1117:Int))) + (((o0.2 + (1:Int)) - (1:Int)) * (29:Int))) + ((((o0.2 + (1:Int)) - (1:Int)) / (o0.1.length:Int)) * (53:Int)))) <|
        rq (0 ≤ (((((o0.1.getD (((o0.2 + (1:Int)) - (1:Int)) % (o0.1.length:Int)).toNat 0) * (131:Int)) + ((o0.1.getD (((((o0.2 + (1:Int)) - (1:Int)) * (7:Int)) + (3:Int)) % (o0.1.length:Int)).toNat 0) * (1117:Int))) + (((o0.2 + (1:Int)) - (1:Int)) * (29:Int))) + ((((o0.2 + (1:Int)) - (1:Int)) / (o0.1.length:Int)) * (53:Int))) ∧ 0 ≤ ((((((o0.1.getD (((o0.2 + (1:Int)) - (1:Int)) % (o0.1.length:Int)).toNat 0) * (131:Int)) + ((o0.1.getD (((((o0.2 + (1:Int)) - (1:Int)) * (7:Int)) + (3:Int)) % (o0.1.length:Int)).toNat 0) * (1117:Int))) + (((o0.2 + (1:Int)) - (1:Int)) * (29:Int))) + ((((o0.2 + (1:Int)) - (1:Int)) / (o0.1.length:Int)) * (53:Int))) / (64:Int))) <|
        rq (1 ≤ a1 ∧ 0 ≤ (((((((o0.1.getD (((o0.2 + (1:Int)) - (1:Int)) % (o0.1.length:Int)).toNat 0) * (131:Int)) + ((o0.1.getD (((((o0.2 + (1:Int)) - (1:Int)) * (7:Int)) + (3:Int)) % (o0.1.length:Int)).toNat 0) * (1117:Int))) + (((o0.2 + (1:Int)) - (1:Int)) * (29:Int))) + ((((o0.2 + (1:Int)) - (1:Int)) / (o0.1.length:Int)) * (53:Int))).toNat ^^^ ((((((o0.1.getD (((o0.2 + (1:Int)) - (1:Int)) % (o0.1.length:Int)).toNat 0) * (131:Int)) + ((o0.1.getD (((((o0.2 + (1:Int)) - (1:Int)) * (7:Int)) + (3:Int)) % (o0.1.length:Int)).toNat 0) * (1117:Int))) + (((o0.2 + (1:Int)) - (1:Int)) * (29:Int))) + ((((o0.2 + (1:Int)) - (1:Int)) / (o0.1.length:Int)) * (53:Int))) / (64:Int)).toNat : Nat) : Int)) <|
        some (((((((((o0.1.getD (((o0.2 + (1:Int)) - (1:Int)) % (o0.1.length:Int)).toNat 0) * (131:Int)) + ((o0.1.getD (((((o0.2 + (1:Int)) - (1:Int)) * (7:Int)) + (3:Int)) % (o0.1.length:Int)).toNat 0) * (1117:Int))) + (((o0.2 + (1:Int)) - (1:Int)) * (29:Int))) + ((((o0.2 + (1:Int)) - (1:Int)) / (o0.1.length:Int)) * (53:Int))).toNat ^^^ ((((((o0.1.getD (((o0.2 + (1:Int)) - (1:Int)) % (o0.1.length:Int)).toNat 0) * (131:Int)) + ((o0.1.getD (((((o0.2 + (1:Int)) - (1:Int)) * (7:Int)) + (3:Int)) % (o0.1.length:Int)).toNat 0) * (1117:Int))) + (((o0.2 + (1:Int)) - (1:Int)) * (29:Int))) + ((((o0.2 + (1:Int)) - (1:Int)) / (o0.1.length:Int)) * (53:Int))) / (64:Int)).toNat : Nat) : Int) % a1), (o0.1, (o0.2 + (1:Int)))))))

/-- (*spec.l17Rd).num -/
noncomputable def spec_l17Rd_num (list_ : List Int) (r_ : (List Int) × Int) : Option (Int × ((List Int) × Int)) :=
  (spec_l17Rd_pick (list_.length:Int) r_).bind fun r1_ =>
  rq (0 ≤ r1_.1 ∧ r1_.1 < list_.length) <|
  some ((list_.getD r1_.1.toNat 0), r1_.2)

/-- spec.l1Total -/
noncomputable def spec_l1Total_l1 (c_ : (List (Int × Int)) × Int) : Int × Int → Option ((Int × Int) ⊕ Int) := fun (n, i) =>
  cond (decide (i < (c_.1.length:Int))) (
    rq (0 ≤ i ∧ i < c_.1.length) <|
    rq (i64 (n + (c_.1.getD i.toNat (0, 0)).1)) <|
    rq (i64 (i + (1:Int))) <|
    some (.inl ((n + (c_.1.getD i.toNat (0, 0)).1), (i + (1:Int))))) (
    some (.inr n))

noncomputable def spec_l1Total (c_ : (List (Int × Int)) × Int) : Option Int :=
  loop (spec_l1Total_l1 c_) ((0:Int), (0:Int))

/-- spec.l1Draw -/
noncomputable def spec_l1Draw_j1 : ((List Int) × Int) × (List (Int × Int)) → Option (((List Int) × Int) × Int × (List (Int × Int))) := fun (r_4, c_01) =>
  (spec_l1Total (c_01, (0:Int))).bind fun r7_ =>
  (spec_l17Rd_num [(1:Int), (2:Int), (1:Int), (3:Int), (0:Int)] r_4).bind fun r8_ =>
  (spec_l17Rd_pick (4:Int) r8_.2).bind fun r9_ =>
  cond (r9_.1 == (0:Int)) (
    rq (i64 (r7_ + (2:Int))) <|
    (spec_l17Rd_pick (r7_ + (2:Int)) r9_.2).bind fun r10_ =>
    some (r10_.2, r10_.1, c_01)) (
    some (r9_.2, r8_.1, c_01))

noncomputable def spec_l1Draw_j2 (v : Int) (c_0 : List (Int × Int)) : ((List Int) × Int) × (Int × Int) → Option ((Int × ((List Int) × Int) × (List (Int × Int))) ⊕ (((List Int) × Int) × Int × (List (Int × Int)))) := fun (r_3, t_1) =>
  rq (c_0.length + [t_1].length ≤ bound) <|
  rq (i64 (v + (1:Int))) <|
  some (.inl ((v + (1:Int)), r_3, (c_0 ++ [t_1])))

noncomputable def spec_l1Draw_l1 (most : Int) : Int × ((List Int) × Int) × (List (Int × Int)) → Option ((Int × ((List Int) × Int) × (List (Int × Int))) ⊕ (((List Int) × Int) × Int × (List (Int × Int)))) := fun (v, r_2, c_0) =>
  cond (decide (v ≤ most)) (
    (spec_l17Rd_pick (2:Int) r_2).bind fun r4_ =>
    cond (r4_.1 == (0:Int)) (
      (spec_l17Rd_num [(1:Int), (1:Int), (2:Int), (3:Int), (1:Int), (5:Int), (4:Int)] r4_.2).bind fun r5_ =>
      (spec_l17Rd_pick (2:Int) r5_.2).bind fun r6_ =>
      cond (r6_.1 == (0:Int)) (
        rq (i64 (0 - v)) <|
        spec_l1Draw_j2 v c_0 (r6_.2, (r5_.1, (0 - v)))) (
        spec_l1Draw_j2 v c_0 (r6_.2, (r5_.1, v)))) (
      rq (i64 (v + (1:Int))) <|
      some (.inl ((v + (1:Int)), r4_.2, c_0)))) (
    up (spec_l1Draw_j1 (r_2, c_0)))

noncomputable def spec_l1Draw (most : Int) (r_ : (List Int) × Int) : Option (((List Int) × Int) × Int × (List (Int × Int))) :=
  loop (spec_l1Draw_l1 most) ((1:Int), r_, ([] : List (Int × Int)))

/-- spec.l3Problem -/
noncomputable def spec_l3Problem_l1 (r1_ : Int × ((List Int) × Int)) : Int × ((List Int) × Int) × (List ((List (Int × Int)) × Int)) → Option ((Int × ((List Int) × Int) × (List ((List (Int × Int)) × Int))) ⊕ (((List Int) × Int) × (List ((List (Int × Int)) × Int)))) := fun (i, r_1, out) =>
  cond (decide ((0:Int) < i)) (
    (spec_l1Draw r1_.1 r_1).bind fun r4_ =>
    rq (out.length + [(r4_.2.2, r4_.2.1)].length ≤ bound) <|
    rq (i64 (i - (1:Int))) <|
    some (.inl ((i - (1:Int)), r4_.1, (out ++ [(r4_.2.2, r4_.2.1)])))) (
    some (.inr (r_1, out)))

noncomputable def spec_l3Problem (r_ : (List Int) × Int) : Option (((List Int) × Int) × (List ((List (Int × Int)) × Int))) :=
  (spec_l17Rd_num [(4:Int), (5:Int), (3:Int), (6:Int)] r_).bind fun r1_ =>
  (spec_l17Rd_num [(4:Int), (6:Int), (3:Int), (8:Int), (2:Int), (1:Int), (0:Int)] r1_.2).bind fun r2_ =>
  loop (spec_l3Problem_l1 r1_) (r2_.1, r2_.2, ([] : List ((List (Int × Int)) × Int)))

/-- spec.l1Copy -/
noncomputable def spec_l1Copy (c_ : (List (Int × Int)) × Int) : Option (Int × (List (Int × Int))) :=
  rq (([] : List (Int × Int)).length + c_.1.length ≤ bound) <|
  some (c_.2, (([] : List (Int × Int)) ++ c_.1))

/-- spec.l1Mutate -/
noncomputable def spec_l1Mutate (c_ : (List (Int × Int)) × Int) (r_ : (List Int) × Int) : Option (((List Int) × Int) × Int × (List (Int × Int))) :=
  (spec_l1Copy c_).bind fun r1_ =>
  (spec_l17Rd_pick (40:Int) r_).bind fun r2_ =>
  cond (r2_.1 == (0:Int)) (
    (spec_l17Rd_num [(-1:Int), (20001:Int), (9223372036854775807:Int)] r2_.2).bind fun r3_ =>
    some (r3_.2, r3_.1, r1_.2)) (
    cond (r2_.1 == (1:Int)) (
      cond (decide ((0:Int) < (r1_.2.length:Int))) (
        (spec_l17Rd_num [(0:Int), (-1:Int), (1001:Int)] r2_.2).bind fun r5_ =>
        rq (0 ≤ (0:Int) ∧ (0:Int) < r1_.2.length) <|
        some (r5_.2, r1_.1, (r1_.2.set (0:Int).toNat (r5_.1, (r1_.2.getD (0:Int).toNat (0, 0)).2)))) (
        some (r2_.2, r1_.1, r1_.2))) (
      cond (r2_.1 == (2:Int)) (
        cond (decide ((0:Int) < (r1_.2.length:Int))) (
          rq (i64 ((r1_.2.length:Int) - (1:Int))) <|
          (spec_l17Rd_num [(0:Int), (13:Int), (-13:Int), (1:Int), (-9223372036854775808:Int)] r2_.2).bind fun r7_ =>
          rq (0 ≤ ((r1_.2.length:Int) - (1:Int)) ∧ ((r1_.2.length:Int) - (1:Int)) < r1_.2.length) <|
          some (r7_.2, r1_.1, (r1_.2.set ((r1_.2.length:Int) - (1:Int)).toNat ((r1_.2.getD ((r1_.2.length:Int) - (1:Int)).toNat (0, 0)).1, r7_.1)))) (
          some (r2_.2, r1_.1, r1_.2))) (
        cond (r2_.1 == (3:Int)) (
          rq (r1_.2.length + [((1:Int), (1:Int))].length ≤ bound) <|
          some (r2_.2, r1_.1, (r1_.2 ++ [((1:Int), (1:Int))]))) (
          some (r2_.2, r1_.1, r1_.2)))))

/-- spec.l3Mutate -/
noncomputable def spec_l3Mutate (list_ : List ((List (Int × Int)) × Int)) (r_ : (List Int) × Int) : Option (((List Int) × Int) × (List ((List (Int × Int)) × Int))) :=
  rq (([] : List ((List (Int × Int)) × Int)).length + list_.length ≤ bound) <|
  cond (decide ((0:Int) < ((([] : List ((List (Int × Int)) × Int)) ++ list_).length:Int))) (
    (spec_l17Rd_pick (20:Int) r_).bind fun r1_ =>
    cond (r1_.1 == (0:Int)) (
      (spec_l17Rd_pick ((([] : List ((List (Int × Int)) × Int)) ++ list_).length:Int) r1_.2).bind fun r2_ =>
      rq (0 ≤ r2_.1 ∧ r2_.1 < (([] : List ((List (Int × Int)) × Int)) ++ list_).length) <|
      (spec_l1Mutate ((([] : List ((List (Int × Int)) × Int)) ++ list_).getD r2_.1.toNat ([], 0)) r2_.2).bind fun r3_ =>
      (spec_l1Mutate (r3_.2.2, r3_.2.1) r3_.1).bind fun r4_ =>
      (spec_l1Mutate (r4_.2.2, r4_.2.1) r4_.1).bind fun r5_ =>
      rq (0 ≤ r2_.1 ∧ r2_.1 < (([] : List ((List (Int × Int)) × Int)) ++ list_).length) <|
      some (r5_.1, ((([] : List ((List (Int × Int)) × Int)) ++ list_).set r2_.1.toNat (r5_.2.2, r5_.2.1)))) (
      some (r1_.2, (([] : List ((List (Int × Int)) × Int)) ++ list_)))) (
    some (r_, (([] : List ((List (Int × Int)) × Int)) ++ list_)))

/-- spec.l1Values -/
noncomputable def spec_l1Values_j1 : ((List Int) × Int) × (List Bool) → Option (((List Int) × Int) × (List Bool)) := fun (r_2, out1) =>
  (spec_l17Rd_pick (40:Int) r_2).bind fun r3_ =>
  cond (r3_.1 == (0:Int)) (
    rq (0 ≤ (11:Int) ∧ (11:Int) ≤ out1.length) <|
    some (r3_.2, (out1.take (11:Int).toNat))) (
    some (r3_.2, out1))

noncomputable def spec_l1Values_l1 : Int × ((List Int) × Int) × (List Bool) → Option ((Int × ((List Int) × Int) × (List Bool)) ⊕ (((List Int) × Int) × (List Bool))) := fun (i, r_1, out) =>
  cond (decide (i < (12:Int))) (
    (spec_l17Rd_pick (2:Int) r_1).bind fun r2_ =>
    rq (out.length + [(r2_.1 == (0:Int))].length ≤ bound) <|
    rq (i64 (i + (1:Int))) <|
    some (.inl ((i + (1:Int)), r2_.2, (out ++ [(r2_.1 == (0:Int))])))) (
    up (spec_l1Values_j1 (r_1, out)))

noncomputable def spec_l1Values (r_ : (List Int) × Int) : Option (((List Int) × Int) × (List Bool)) :=
  loop (spec_l1Values_l1) ((0:Int), r_, ([] : List Bool))

/-- spec.DrawSatisfiesAll -/
noncomputable def spec_DrawSatisfiesAll (code : List Int) : Option ((List ((List (Int × Int)) × Int)) × (List Bool)) :=
  (spec_l17Open code).bind fun r1_ =>
  (spec_l3Problem r1_).bind fun r2_ =>
  (spec_l3Mutate r2_.2 r2_.1).bind fun r3_ =>
  (spec_l1Values r3_.1).bind fun r4_ =>
  some (r3_.2, r4_.2)

/-- spec.DrawFlipBest -/
noncomputable def spec_DrawFlipBest (code : List Int) : Option ((List ((List (Int × Int)) × Int)) × (List Bool)) :=
  (spec_DrawSatisfiesAll code).bind fun r1_ =>
  some (r1_.1, r1_.2)

/-- impl.within -/
noncomputable def impl_within (n : Int) (low : Int) (high : Int) : Option Bool :=
  cond (decide (low ≤ n)) (
    some (decide (n ≤ high))) (
    some false)

/-- impl.isLiteral -/
noncomputable def impl_isLiteral (l : Int) : Option Bool :=
  cond (l != (0:Int)) (
    (impl_within l (-12:Int) (12:Int)).bind fun r1_ =>
    some r1_) (
    some false)

/-- impl.variableOf -/
noncomputable def impl_variableOf (l : Int) : Option Int :=
  rq (i64 (0 - l)) <|
  some (max l (0 - l))

/-- impl.ConstraintValid -/
noncomputable def impl_ConstraintValid_l1 (c_ : (List (Int × Int)) × Int) : Int × Int → Option ((Int × Int) ⊕ Bool) := fun (before, i) =>
  cond (decide (i < (c_.1.length:Int))) (
    rq (0 ≤ i ∧ i < c_.1.length) <|
    (impl_isLiteral (c_.1.getD i.toNat (0, 0)).2).bind fun r1_ =>
    cond (!r1_) (
      some (.inr false)) (
      (impl_variableOf (c_.1.getD i.toNat (0, 0)).2).bind fun r2_ =>
      cond (decide (r2_ ≤ before)) (
        some (.inr false)) (
        (impl_within (c_.1.getD i.toNat (0, 0)).1 (1:Int) (1000:Int)).bind fun r3_ =>
        cond (!r3_) (
          some (.inr false)) (
          (impl_variableOf (c_.1.getD i.toNat (0, 0)).2).bind fun r4_ =>
          rq (i64 (i + (1:Int))) <|
          some (.inl (r4_, (i + (1:Int)))))))) (
    (impl_within c_.2 (0:Int) (20000:Int)).bind fun r5_ =>
    some (.inr r5_))

noncomputable def impl_ConstraintValid (c_ : (List (Int × Int)) × Int) : Option Bool :=
  loop (impl_ConstraintValid_l1 c_) ((0:Int), (0:Int))

/-- impl.allValid$1 -/
noncomputable def impl_allValid_1 (c_ : (List (Int × Int)) × Int) : Option Bool :=
  (impl_ConstraintValid c_).bind fun r1_ =>
  some (!r1_)

/-- slices.IndexFunc[[]impl.Constraint,impl.Constraint] -/
noncomputable def slices_IndexFunc_impl_Constraint__impl_allValid_1_l1 (s_ : List ((List (Int × Int)) × Int)) : Int → Option (Int ⊕ Int) := fun i =>
  cond (decide (i < (s_.length:Int))) (
    rq (0 ≤ i ∧ i < s_.length) <|
    (impl_allValid_1 (s_.getD i.toNat ([], 0))).bind fun r1_ =>
    cond r1_ (
      some (.inr i)) (
      rq (i64 (i + (1:Int))) <|
      some (.inl (i + (1:Int))))) (
    some (.inr (-1:Int)))

noncomputable def slices_IndexFunc_impl_Constraint__impl_allValid_1 (s_ : List ((List (Int × Int)) × Int)) : Option Int :=
  loop (slices_IndexFunc_impl_Constraint__impl_allValid_1_l1 s_) (0:Int)

/-- slices.ContainsFunc[[]impl.Constraint,impl.Constraint] -/
noncomputable def slices_ContainsFunc_impl_Constraint__impl_allValid_1 (s_ : List ((List (Int × Int)) × Int)) : Option Bool :=
  (slices_IndexFunc_impl_Constraint__impl_allValid_1 s_).bind fun r1_ =>
  some (decide ((0:Int) ≤ r1_))

/-- impl.allValid -/
noncomputable def impl_allValid (list_ : List ((List (Int × Int)) × Int)) : Option Bool :=
  (slices_ContainsFunc_impl_Constraint__impl_allValid_1 list_).bind fun r1_ =>
  some (!r1_)

/-- impl.ProblemValid -/
noncomputable def impl_ProblemValid (list_ : List ((List (Int × Int)) × Int)) : Option Bool :=
  cond (decide ((list_.length:Int) ≤ (400:Int))) (
    (impl_allValid list_).bind fun r1_ =>
    some r1_) (
    some false)

/-- slices.Clone[[]bool,bool] -/
noncomputable def slices_Clone_bool (s_ : List Bool) : Option (List Bool) :=
  nt (s_ = []) (
    some ([] : List Bool)) (
    rq (([] : List Bool).length + s_.length ≤ bound) <|
    some (([] : List Bool) ++ s_))

/-- impl.holds -/
noncomputable def impl_holds (l : Int) (values : List Bool) : Option Bool :=
  (impl_variableOf l).bind fun r1_ =>
  rq (i64 (r1_ - (1:Int))) <|
  rq (0 ≤ (r1_ - (1:Int)) ∧ (r1_ - (1:Int)) < values.length) <|
  some ((values.getD (r1_ - (1:Int)).toNat false) == (decide ((0:Int) < l)))

/-- (impl.Constraint).holds -/
noncomputable def impl_Constraint_holds_l1 (c_ : (List (Int × Int)) × Int) (values : List Bool) : Int × Int → Option ((Int × Int) ⊕ Bool) := fun (sum, i) =>
  cond (decide (i < (c_.1.length:Int))) (
    rq (0 ≤ i ∧ i < c_.1.length) <|
    (impl_holds (c_.1.getD i.toNat (0, 0)).2 values).bind fun r1_ =>
    cond r1_ (
      rq (i64 (sum + (c_.1.getD i.toNat (0, 0)).1)) <|
      rq (i64 (i + (1:Int))) <|
      some (.inl ((sum + (c_.1.getD i.toNat (0, 0)).1), (i + (1:Int))))) (
      rq (i64 (i + (1:Int))) <|
      some (.inl (sum, (i + (1:Int)))))) (
    some (.inr (decide (c_.2 ≤ sum))))

noncomputable def impl_Constraint_holds (c_ : (List (Int × Int)) × Int) (values : List Bool) : Option Bool :=
  loop (impl_Constraint_holds_l1 c_ values) ((0:Int), (0:Int))

/-- impl.violations -/
noncomputable def impl_violations_l1 (list_ : List ((List (Int × Int)) × Int)) (values : List Bool) : Int × Int → Option ((Int × Int) ⊕ Int) := fun (count, i) =>
  cond (decide (i < (list_.length:Int))) (
    rq (0 ≤ i ∧ i < list_.length) <|
    (impl_Constraint_holds (list_.getD i.toNat ([], 0)) values).bind fun r1_ =>
    cond (!r1_) (
      rq (i64 (count + (1:Int))) <|
      rq (i64 (i + (1:Int))) <|
      some (.inl ((count + (1:Int)), (i + (1:Int))))) (
      rq (i64 (i + (1:Int))) <|
      some (.inl (count, (i + (1:Int)))))) (
    some (.inr count))

noncomputable def impl_violations (list_ : List ((List (Int × Int)) × Int)) (values : List Bool) : Option Int :=
  loop (impl_violations_l1 list_ values) ((0:Int), (0:Int))

/-- impl.FlipBest -/
noncomputable def impl_FlipBest_j1 : Int × (List Bool) → Option (Int × Bool × (List Bool)) := fun (least1, best1) =>
  some (least1, true, best1)

noncomputable def impl_FlipBest_l1 (list_ : List ((List (Int × Int)) × Int)) (values : List Bool) : Int × Int × (List Bool) → Option ((Int × Int × (List Bool)) ⊕ (Int × Bool × (List Bool))) := fun (least, i, best) =>
  cond (decide (i < (values.length:Int))) (
    (slices_Clone_bool values).bind fun r4_ =>
    rq (0 ≤ i ∧ i < r4_.length) <|
    rq (0 ≤ i ∧ i < r4_.length) <|
    (impl_violations list_ (r4_.set i.toNat (!(r4_.getD i.toNat false)))).bind fun r5_ =>
    cond best.isEmpty (
      rq (i64 (i + (1:Int))) <|
      rq ((r4_.set i.toNat (!(r4_.getD i.toNat false))) ≠ []) <|
      some (.inl (r5_, (i + (1:Int)), (r4_.set i.toNat (!(r4_.getD i.toNat false)))))) (
      cond (decide (r5_ < least)) (
        rq (i64 (i + (1:Int))) <|
        rq ((r4_.set i.toNat (!(r4_.getD i.toNat false))) ≠ []) <|
        some (.inl (r5_, (i + (1:Int)), (r4_.set i.toNat (!(r4_.getD i.toNat false)))))) (
        rq (i64 (i + (1:Int))) <|
        some (.inl (least, (i + (1:Int)), best))))) (
    up (impl_FlipBest_j1 (least, best)))

noncomputable def impl_FlipBest (list_ : List ((List (Int × Int)) × Int)) (values : List Bool) : Option (Int × Bool × (List Bool)) :=
  (impl_ProblemValid list_).bind fun r1_ =>
  cond (!r1_) (
    some ((0:Int), false, ([] : List Bool))) (
    cond ((values.length:Int) != (12:Int)) (
      some ((0:Int), false, ([] : List Bool))) (
      loop (impl_FlipBest_l1 list_ values) ((0:Int), (0:Int), ([] : List Bool))))

/-- spec.l1Lit -/
noncomputable def spec_l1Lit (n : Int) : Option Bool :=
  cond (n != (0:Int)) (
    cond (decide ((-12:Int) ≤ n)) (
      some (decide (n ≤ (12:Int)))) (
      some false)) (
    some false)

/-- spec.l1Abs -/
noncomputable def spec_l1Abs (n : Int) : Option Int :=
  cond (decide (n < (0:Int))) (
    rq (i64 (0 - n)) <|
    some (0 - n)) (
    some n)

/-- spec.ConstraintValid -/
noncomputable def spec_ConstraintValid_l1 (c_ : (List (Int × Int)) × Int) : Int → Option (Int ⊕ Bool) := fun i =>
  cond (decide (i < (c_.1.length:Int))) (
    rq (0 ≤ i ∧ i < c_.1.length) <|
    (spec_l1Lit (c_.1.getD i.toNat (0, 0)).2).bind fun r4_ =>
    cond (!r4_) (
      some (.inr false)) (
      cond (decide ((c_.1.getD i.toNat (0, 0)).1 < (1:Int))) (
        some (.inr false)) (
        cond (decide ((1000:Int) < (c_.1.getD i.toNat (0, 0)).1)) (
          some (.inr false)) (
          cond (decide ((0:Int) < i)) (
            rq (i64 (i - (1:Int))) <|
            rq (0 ≤ (i - (1:Int)) ∧ (i - (1:Int)) < c_.1.length) <|
            (spec_l1Abs (c_.1.getD (i - (1:Int)).toNat (0, 0)).2).bind fun r5_ =>
            (spec_l1Abs (c_.1.getD i.toNat (0, 0)).2).bind fun r6_ =>
            cond (decide (r6_ ≤ r5_)) (
              some (.inr false)) (
              rq (i64 (i + (1:Int))) <|
              some (.inl (i + (1:Int))))) (
            rq (i64 (i + (1:Int))) <|
            some (.inl (i + (1:Int)))))))) (
    cond (decide ((0:Int) ≤ c_.2)) (
      some (.inr (decide (c_.2 ≤ (20000:Int))))) (
      some (.inr false)))

noncomputable def spec_ConstraintValid (c_ : (List (Int × Int)) × Int) : Option Bool :=
  loop (spec_ConstraintValid_l1 c_) (0:Int)

/-- spec.ProblemValid -/
noncomputable def spec_ProblemValid_l1 (list_ : List ((List (Int × Int)) × Int)) : Int → Option (Int ⊕ Bool) := fun i =>
  cond (decide (i < (list_.length:Int))) (
    rq (0 ≤ i ∧ i < list_.length) <|
    (spec_ConstraintValid (list_.getD i.toNat ([], 0))).bind fun r1_ =>
    cond (!r1_) (
      some (.inr false)) (
      rq (i64 (i + (1:Int))) <|
      some (.inl (i + (1:Int))))) (
    some (.inr (decide ((list_.length:Int) ≤ (400:Int)))))

noncomputable def spec_ProblemValid (list_ : List ((List (Int × Int)) × Int)) : Option Bool :=
  loop (spec_ProblemValid_l1 list_) (0:Int)

/-- spec.l1True -/
noncomputable def spec_l1True (values : List Bool) (lit : Int) : Option Bool :=
  cond (decide ((0:Int) < lit)) (
    rq (i64 (lit - (1:Int))) <|
    rq (0 ≤ (lit - (1:Int)) ∧ (lit - (1:Int)) < values.length) <|
    some (values.getD (lit - (1:Int)).toNat false)) (
    rq (i64 (0 - lit)) <|
    rq (i64 ((0 - lit) - (1:Int))) <|
    rq (0 ≤ ((0 - lit) - (1:Int)) ∧ ((0 - lit) - (1:Int)) < values.length) <|
    some (!(values.getD ((0 - lit) - (1:Int)).toNat false)))

/-- spec.l1Eval -/
noncomputable def spec_l1Eval_l1 (c_ : (List (Int × Int)) × Int) (values : List Bool) : Int × Int → Option ((Int × Int) ⊕ Bool) := fun (n, i) =>
  cond (decide (i < (c_.1.length:Int))) (
    rq (0 ≤ i ∧ i < c_.1.length) <|
    (spec_l1True values (c_.1.getD i.toNat (0, 0)).2).bind fun r1_ =>
    cond r1_ (
      rq (0 ≤ i ∧ i < c_.1.length) <|
      rq (i64 (n + (c_.1.getD i.toNat (0, 0)).1)) <|
      rq (i64 (i + (1:Int))) <|
      some (.inl ((n + (c_.1.getD i.toNat (0, 0)).1), (i + (1:Int))))) (
      rq (i64 (i + (1:Int))) <|
      some (.inl (n, (i + (1:Int)))))) (
    some (.inr (decide (c_.2 ≤ n))))

noncomputable def spec_l1Eval (c_ : (List (Int × Int)) × Int) (values : List Bool) : Option Bool :=
  loop (spec_l1Eval_l1 c_ values) ((0:Int), (0:Int))

/-- spec.l11Bad -/
noncomputable def spec_l11Bad_l1 (list_ : List ((List (Int × Int)) × Int)) (values : List Bool) : Int × Int → Option ((Int × Int) ⊕ Int) := fun (n, i) =>
  cond (decide (i < (list_.length:Int))) (
    rq (0 ≤ i ∧ i < list_.length) <|
    (spec_l1Eval (list_.getD i.toNat ([], 0)) values).bind fun r1_ =>
    cond (!r1_) (
      rq (i64 (n + (1:Int))) <|
      rq (i64 (i + (1:Int))) <|
      some (.inl ((n + (1:Int)), (i + (1:Int))))) (
      rq (i64 (i + (1:Int))) <|
      some (.inl (n, (i + (1:Int)))))) (
    some (.inr n))

noncomputable def spec_l11Bad (list_ : List ((List (Int × Int)) × Int)) (values : List Bool) : Option Int :=
  loop (spec_l11Bad_l1 list_ values) ((0:Int), (0:Int))

/-- spec.FlipBest -/
noncomputable def spec_FlipBest_j1 : Int × (List Bool) → Option (Int × Bool × (List Bool)) := fun (best1, out1) =>
  some (best1, true, out1)

noncomputable def spec_FlipBest_l1 (list_ : List ((List (Int × Int)) × Int)) (values : List Bool) : Int × Int × (List Bool) → Option ((Int × Int × (List Bool)) ⊕ (Int × Bool × (List Bool))) := fun (best, v, out) =>
  cond (decide (v < (12:Int))) (
    rq (([] : List Bool).length + values.length ≤ bound) <|
    rq (0 ≤ v ∧ v < (([] : List Bool) ++ values).length) <|
    rq (0 ≤ v ∧ v < (([] : List Bool) ++ values).length) <|
    (spec_l11Bad list_ ((([] : List Bool) ++ values).set v.toNat (!((([] : List Bool) ++ values).getD v.toNat false)))).bind fun r3_ =>
    cond (decide (best < (0:Int))) (
      rq (i64 (v + (1:Int))) <|
      some (.inl (r3_, (v + (1:Int)), ((([] : List Bool) ++ values).set v.toNat (!((([] : List Bool) ++ values).getD v.toNat false)))))) (
      cond (decide (r3_ < best)) (
        rq (i64 (v + (1:Int))) <|
        some (.inl (r3_, (v + (1:Int)), ((([] : List Bool) ++ values).set v.toNat (!((([] : List Bool) ++ values).getD v.toNat false)))))) (
        rq (i64 (v + (1:Int))) <|
        some (.inl (best, (v + (1:Int)), out))))) (
    up (spec_FlipBest_j1 (best, out)))

noncomputable def spec_FlipBest (list_ : List ((List (Int × Int)) × Int)) (values : List Bool) : Option (Int × Bool × (List Bool)) :=
  (spec_ProblemValid list_).bind fun r1_ =>
  cond (!r1_) (
    some ((0:Int), false, ([] : List Bool))) (
    cond ((values.length:Int) != (12:Int)) (
      some ((0:Int), false, ([] : List Bool))) (
      loop (spec_FlipBest_l1 list_ values) ((-1:Int), (0:Int), ([] : List Bool))))

/-- laws.cpBools -/
noncomputable def laws_cpBools_l1 (a : List Bool) (b : List Bool) : Int → Option (Int ⊕ Bool) := fun i =>
  cond (decide (i < (a.length:Int))) (
    rq (0 ≤ i ∧ i < a.length) <|
    rq (0 ≤ i ∧ i < b.length) <|
    cond ((a.getD i.toNat false) != (b.getD i.toNat false)) (
      some (.inr false)) (
      rq (i64 (i + (1:Int))) <|
      some (.inl (i + (1:Int))))) (
    some (.inr true))

noncomputable def laws_cpBools (a : List Bool) (b : List Bool) : Option Bool :=
  cond ((a.length:Int) != (b.length:Int)) (
    some false) (
    loop (laws_cpBools_l1 a b) (0:Int))

/-- impl.ViolationCount -/
noncomputable def impl_ViolationCount (list_ : List ((List (Int × Int)) × Int)) (values : List Bool) : Option (Int × Bool) :=
  (impl_ProblemValid list_).bind fun r1_ =>
  cond (!r1_) (
    some ((0:Int), false)) (
    cond ((values.length:Int) != (12:Int)) (
      some ((0:Int), false)) (
      (impl_violations list_ values).bind fun r2_ =>
      some (r2_, true)))

/-- laws.FnFlipBest -/
noncomputable def laws_FnFlipBest_j1 (r1_ : (List ((List (Int × Int)) × Int)) × (List Bool)) (r2_ : Int × Bool × (List Bool)) (i1 : Int) : Int → Option ((Int × Int) ⊕ Bool) := fun i2 =>
  rq (([] : List Bool).length + r1_.2.length ≤ bound) <|
  rq (0 ≤ i1 ∧ i1 < (([] : List Bool) ++ r1_.2).length) <|
  rq (0 ≤ i1 ∧ i1 < (([] : List Bool) ++ r1_.2).length) <|
  (impl_ViolationCount r1_.1 ((([] : List Bool) ++ r1_.2).set i1.toNat (!((([] : List Bool) ++ r1_.2).getD i1.toNat false)))).bind fun r9_ =>
  cond (!r9_.2) (
    some (.inr false)) (
    cond (decide (r9_.1 < r2_.1)) (
      some (.inr false)) (
      rq (i64 (i1 + (1:Int))) <|
      some (.inl (i2, (i1 + (1:Int))))))

noncomputable def laws_FnFlipBest_l1 (r1_ : (List ((List (Int × Int)) × Int)) × (List Bool)) (r2_ : Int × Bool × (List Bool)) : Int × Int → Option ((Int × Int) ⊕ Bool) := fun (i, i1) =>
  cond (decide (i1 < (12:Int))) (
    rq (0 ≤ i1 ∧ i1 < r2_.2.2.length) <|
    rq (0 ≤ i1 ∧ i1 < r1_.2.length) <|
    cond ((r2_.2.2.getD i1.toNat false) != (r1_.2.getD i1.toNat false)) (
      rq (i64 (i + (1:Int))) <|
      laws_FnFlipBest_j1 r1_ r2_ i1 (i + (1:Int))) (
      laws_FnFlipBest_j1 r1_ r2_ i1 i)) (
    (impl_ViolationCount r1_.1 r2_.2.2).bind fun r10_ =>
    cond r10_.2 (
      cond (i == (1:Int)) (
        some (.inr (r10_.1 == r2_.1))) (
        some (.inr false))) (
      some (.inr false)))

noncomputable def laws_FnFlipBest (a0 : List Int) : Option Bool :=
  cond (decide ((1048576:Int) < (a0.length:Int))) (
    some true) (
    (spec_DrawFlipBest a0).bind fun r1_ =>
    (impl_FlipBest r1_.1 r1_.2).bind fun r2_ =>
    (spec_FlipBest r1_.1 r1_.2).bind fun r3_ =>
    cond (r2_.2.1 != r3_.2.1) (
      cond (r2_.2.1 == r3_.2.1) (
        cond (r2_.1 == r3_.1) (
          (laws_cpBools r2_.2.2 r3_.2.2).bind fun r8_ =>
          some r8_) (
          some false)) (
        some false)) (
      cond (r2_.1 != r3_.1) (
        cond (r2_.2.1 == r3_.2.1) (
          cond (r2_.1 == r3_.1) (
            (laws_cpBools r2_.2.2 r3_.2.2).bind fun r7_ =>
            some r7_) (
            some false)) (
          some false)) (
        (laws_cpBools r2_.2.2 r3_.2.2).bind fun r4_ =>
        cond (!r4_) (
          cond (r2_.2.1 == r3_.2.1) (
            cond (r2_.1 == r3_.1) (
              (laws_cpBools r2_.2.2 r3_.2.2).bind fun r6_ =>
              some r6_) (
              some false)) (
            some false)) (
          cond (!r2_.2.1) (
            cond (r2_.2.1 == r3_.2.1) (
              cond (r2_.1 == r3_.1) (
                (laws_cpBools r2_.2.2 r3_.2.2).bind fun r5_ =>
                some r5_) (
                some false)) (
              some false)) (
            loop (laws_FnFlipBest_l1 r1_ r2_) ((0:Int), (0:Int)))))))

/-- spec.DrawSubProblem -/
noncomputable def spec_DrawSubProblem_j2 (r3_ : ((List Int) × Int) × (List ((List (Int × Int)) × Int))) : (List Int) → Option ((List ((List (Int × Int)) × Int)) × (List Int)) := fun keep2 =>
  some (r3_.2, keep2)

noncomputable def spec_DrawSubProblem_j1 (r3_ : ((List Int) × Int) × (List ((List (Int × Int)) × Int))) : ((List Int) × Int) × (List Int) → Option ((List ((List (Int × Int)) × Int)) × (List Int)) := fun (r_1, keep1) =>
  (spec_l17Rd_pick (12:Int) r_1).bind fun r6_ =>
  cond (r6_.1 == (0:Int)) (
    (spec_l17Rd_num [(0:Int), (-1:Int), (400:Int), (9223372036854775807:Int)] r6_.2).bind fun r7_ =>
    rq (keep1.length + [r7_.1].length ≤ bound) <|
    spec_DrawSubProblem_j2 r3_ (keep1 ++ [r7_.1])) (
    spec_DrawSubProblem_j2 r3_ keep1)

noncomputable def spec_DrawSubProblem_l1 (r3_ : ((List Int) × Int) × (List ((List (Int × Int)) × Int))) : Int × ((List Int) × Int) × (List Int) → Option ((Int × ((List Int) × Int) × (List Int)) ⊕ ((List ((List (Int × Int)) × Int)) × (List Int))) := fun (i, r_, keep) =>
  cond (decide (i < (r3_.2.length:Int))) (
    (spec_l17Rd_pick (2:Int) r_).bind fun r5_ =>
    cond (r5_.1 == (0:Int)) (
      rq (keep.length + [i].length ≤ bound) <|
      rq (i64 (i + (1:Int))) <|
      some (.inl ((i + (1:Int)), r5_.2, (keep ++ [i])))) (
      rq (i64 (i + (1:Int))) <|
      some (.inl ((i + (1:Int)), r5_.2, keep)))) (
    up (spec_DrawSubProblem_j1 r3_ (r_, keep)))

noncomputable def spec_DrawSubProblem (code : List Int) : Option ((List ((List (Int × Int)) × Int)) × (List Int)) :=
  (spec_l17Open code).bind fun r1_ =>
  (spec_l3Problem r1_).bind fun r2_ =>
  (spec_l3Mutate r2_.2 r2_.1).bind fun r3_ =>
  loop (spec_DrawSubProblem_l1 r3_) ((0:Int), r3_.1, ([] : List Int))

/-- impl.isPart -/
noncomputable def impl_isPart_l1 (keep : List Int) (count : Int) : Int → Option (Int ⊕ Bool) := fun i =>
  cond (decide (i < (keep.length:Int))) (
    rq (0 ≤ i ∧ i < keep.length) <|
    rq (i64 (count - (1:Int))) <|
    (impl_within (keep.getD i.toNat 0) (0:Int) (count - (1:Int))).bind fun r1_ =>
    cond (!r1_) (
      some (.inr false)) (
      cond (decide ((0:Int) < i)) (
        rq (i64 (i - (1:Int))) <|
        rq (0 ≤ (i - (1:Int)) ∧ (i - (1:Int)) < keep.length) <|
        cond (decide ((keep.getD i.toNat 0) ≤ (keep.getD (i - (1:Int)).toNat 0))) (
          some (.inr false)) (
          rq (i64 (i + (1:Int))) <|
          some (.inl (i + (1:Int))))) (
        rq (i64 (i + (1:Int))) <|
        some (.inl (i + (1:Int)))))) (
    some (.inr true))

noncomputable def impl_isPart (keep : List Int) (count : Int) : Option Bool :=
  loop (impl_isPart_l1 keep count) (0:Int)

/-- impl.partOf -/
noncomputable def impl_partOf_l1 (list_ : List ((List (Int × Int)) × Int)) (keep : List Int) : Int × (List ((List (Int × Int)) × Int)) → Option ((Int × (List ((List (Int × Int)) × Int))) ⊕ ((List ((List (Int × Int)) × Int)))) := fun (i, out) =>
  cond (decide (i < (keep.length:Int))) (
    rq (0 ≤ i ∧ i < keep.length) <|
    rq (0 ≤ (keep.getD i.toNat 0) ∧ (keep.getD i.toNat 0) < list_.length) <|
    rq (out.length + [(list_.getD (keep.getD i.toNat 0).toNat ([], 0))].length ≤ bound) <|
    rq (i64 (i + (1:Int))) <|
    some (.inl ((i + (1:Int)), (out ++ [(list_.getD (keep.getD i.toNat 0).toNat ([], 0))])))) (
    some (.inr out))

noncomputable def impl_partOf (list_ : List ((List (Int × Int)) × Int)) (keep : List Int) : Option ((List ((List (Int × Int)) × Int))) :=
  loop (impl_partOf_l1 list_ keep) ((0:Int), ([] : List ((List (Int × Int)) × Int)))

/-- slices.Clone[[]impl.Term,impl.Term] -/
noncomputable def slices_Clone_impl_Term (s_ : List (Int × Int)) : Option ((List (Int × Int))) :=
  nt (s_ = []) (
    some ([] : List (Int × Int))) (
    rq (([] : List (Int × Int)).length + s_.length ≤ bound) <|
    some (([] : List (Int × Int)) ++ s_))

/-- (impl.Constraint).own -/
noncomputable def impl_Constraint_own (c_ : (List (Int × Int)) × Int) : Option (Int × (List (Int × Int))) :=
  (slices_Clone_impl_Term c_.1).bind fun r1_ =>
  some (c_.2, r1_)

/-- impl.ownAll -/
noncomputable def impl_ownAll_l1 (list_ : List ((List (Int × Int)) × Int)) : Int × (List ((List (Int × Int)) × Int)) → Option ((Int × (List ((List (Int × Int)) × Int))) ⊕ ((List ((List (Int × Int)) × Int)))) := fun (i, out) =>
  cond (decide (i < (list_.length:Int))) (
    rq (0 ≤ i ∧ i < list_.length) <|
    (impl_Constraint_own (list_.getD i.toNat ([], 0))).bind fun r2_ =>
    rq (out.length + [(r2_.2, r2_.1)].length ≤ bound) <|
    rq (i64 (i + (1:Int))) <|
    some (.inl ((i + (1:Int)), (out ++ [(r2_.2, r2_.1)])))) (
    some (.inr out))

noncomputable def impl_ownAll (list_ : List ((List (Int × Int)) × Int)) : Option ((List ((List (Int × Int)) × Int))) :=
  loop (impl_ownAll_l1 list_) ((0:Int), ([] : List ((List (Int × Int)) × Int)))

/-- impl.SubProblem -/
noncomputable def impl_SubProblem (list_ : List ((List (Int × Int)) × Int)) (keep : List Int) : Option (Bool × (List ((List (Int × Int)) × Int))) :=
  (impl_ProblemValid list_).bind fun r1_ =>
  cond (!r1_) (
    some (false, ([] : List ((List (Int × Int)) × Int)))) (
    (impl_isPart keep (list_.length:Int)).bind fun r2_ =>
    cond (!r2_) (
      some (false, ([] : List ((List (Int × Int)) × Int)))) (
      (impl_partOf list_ keep).bind fun r3_ =>
      (impl_ownAll r3_).bind fun r4_ =>
      some (true, r4_)))

/-- spec.l11Keep -/
noncomputable def spec_l11Keep_l1 (keep : List Int) (n : Int) : Int → Option (Int ⊕ Bool) := fun i =>
  cond (decide (i < (keep.length:Int))) (
    rq (0 ≤ i ∧ i < keep.length) <|
    cond (decide ((keep.getD i.toNat 0) < (0:Int))) (
      some (.inr false)) (
      rq (0 ≤ i ∧ i < keep.length) <|
      cond (decide (n ≤ (keep.getD i.toNat 0))) (
        some (.inr false)) (
        cond (decide ((0:Int) < i)) (
          rq (i64 (i - (1:Int))) <|
          rq (0 ≤ (i - (1:Int)) ∧ (i - (1:Int)) < keep.length) <|
          rq (0 ≤ i ∧ i < keep.length) <|
          cond (decide ((keep.getD i.toNat 0) ≤ (keep.getD (i - (1:Int)).toNat 0))) (
            some (.inr false)) (
            rq (i64 (i + (1:Int))) <|
            some (.inl (i + (1:Int))))) (
          rq (i64 (i + (1:Int))) <|
          some (.inl (i + (1:Int))))))) (
    some (.inr true))

noncomputable def spec_l11Keep (keep : List Int) (n : Int) : Option Bool :=
  loop (spec_l11Keep_l1 keep n) (0:Int)

/-- spec.l11Sub -/
noncomputable def spec_l11Sub_l1 (list_ : List ((List (Int × Int)) × Int)) (keep : List Int) : Int × (List ((List (Int × Int)) × Int)) → Option ((Int × (List ((List (Int × Int)) × Int))) ⊕ ((List ((List (Int × Int)) × Int)))) := fun (i, out) =>
  cond (decide (i < (keep.length:Int))) (
    rq (0 ≤ i ∧ i < keep.length) <|
    rq (0 ≤ (keep.getD i.toNat 0) ∧ (keep.getD i.toNat 0) < list_.length) <|
    (spec_l1Copy (list_.getD (keep.getD i.toNat 0).toNat ([], 0))).bind fun r2_ =>
    rq (out.length + [(r2_.2, r2_.1)].length ≤ bound) <|
    rq (i64 (i + (1:Int))) <|
    some (.inl ((i + (1:Int)), (out ++ [(r2_.2, r2_.1)])))) (
    some (.inr out))

noncomputable def spec_l11Sub (list_ : List ((List (Int × Int)) × Int)) (keep : List Int) : Option ((List ((List (Int × Int)) × Int))) :=
  loop (spec_l11Sub_l1 list_ keep) ((0:Int), ([] : List ((List (Int × Int)) × Int)))

/-- spec.SubProblem -/
noncomputable def spec_SubProblem (list_ : List ((List (Int × Int)) × Int)) (keep : List Int) : Option (Bool × (List ((List (Int × Int)) × Int))) :=
  (spec_ProblemValid list_).bind fun r1_ =>
  cond (!r1_) (
    some (false, ([] : List ((List (Int × Int)) × Int)))) (
    (spec_l11Keep keep (list_.length:Int)).bind fun r2_ =>
    cond (!r2_) (
      some (false, ([] : List ((List (Int × Int)) × Int)))) (
      (spec_l11Sub list_ keep).bind fun r3_ =>
      some (true, r3_)))

/-- slices.Equal[[]impl.Term,impl.Term] -/
noncomputable def slices_Equal_impl_Term_l1 (s1_ : List (Int × Int)) (s2_ : List (Int × Int)) : Int → Option (Int ⊕ Bool) := fun i =>
  cond (decide (i < (s1_.length:Int))) (
    rq (0 ≤ i ∧ i < s1_.length) <|
    rq (0 ≤ i ∧ i < s2_.length) <|
    cond (!((s1_.getD i.toNat (0, 0)).1 == (s2_.getD i.toNat (0, 0)).1 && (s1_.getD i.toNat (0, 0)).2 == (s2_.getD i.toNat (0, 0)).2)) (
      some (.inr false)) (
      rq (i64 (i + (1:Int))) <|
      some (.inl (i + (1:Int))))) (
    some (.inr true))

noncomputable def slices_Equal_impl_Term (s1_ : List (Int × Int)) (s2_ : List (Int × Int)) : Option Bool :=
  cond ((s1_.length:Int) != (s2_.length:Int)) (
    some false) (
    loop (slices_Equal_impl_Term_l1 s1_ s2_) (0:Int))

/-- impl.ConstraintSame -/
noncomputable def impl_ConstraintSame (a : (List (Int × Int)) × Int) (b : (List (Int × Int)) × Int) : Option Bool :=
  cond (a.2 == b.2) (
    (slices_Equal_impl_Term a.1 b.1).bind fun r1_ =>
    some r1_) (
    some false)

/-- laws.cpProblem -/
noncomputable def laws_cpProblem_l1 (a : List ((List (Int × Int)) × Int)) (b : List ((List (Int × Int)) × Int)) : Int → Option (Int ⊕ Bool) := fun i =>
  cond (decide (i < (a.length:Int))) (
    rq (0 ≤ i ∧ i < a.length) <|
    rq (0 ≤ i ∧ i < b.length) <|
    (impl_ConstraintSame (a.getD i.toNat ([], 0)) (b.getD i.toNat ([], 0))).bind fun r2_ =>
    cond (!r2_) (
      some (.inr false)) (
      rq (i64 (i + (1:Int))) <|
      some (.inl (i + (1:Int))))) (
    some (.inr true))

noncomputable def laws_cpProblem (a : List ((List (Int × Int)) × Int)) (b : List ((List (Int × Int)) × Int)) : Option Bool :=
  cond ((a.length:Int) != (b.length:Int)) (
    some false) (
    loop (laws_cpProblem_l1 a b) (0:Int))

/-- impl.numbered -/
noncomputable def impl_numbered_l1 (n : Int) : Int × (List Bool) → Option ((Int × (List Bool)) ⊕ (List Bool)) := fun (i, out) =>
  cond (decide (i < ((List.replicate (12:Int).toNat false).length:Int))) (
    rq (i64 ((11:Int) - i)) <|
    rq ((0 ≤ ((11:Int) - i) ∧ ((11:Int) - i) ≤ 62) ∧ 0 ≤ n) <|
    rq (0 ≤ (n / 2 ^ ((11:Int) - i).toNat) ∧ 0 ≤ (1:Int)) <|
    rq (0 ≤ i ∧ i < out.length) <|
    rq (i64 (i + (1:Int))) <|
    some (.inl ((i + (1:Int)), (out.set i.toNat ((((n / 2 ^ ((11:Int) - i).toNat).toNat &&& (1:Int).toNat : Nat) : Int) == (1:Int)))))) (
    some (.inr out))

noncomputable def impl_numbered (n : Int) : Option (List Bool) :=
  rq (0 ≤ (12:Int) ∧ (12:Int) ≤ bound ∧ (12:Int) = (12:Int)) <|
  loop (impl_numbered_l1 n) ((0:Int), (List.replicate (12:Int).toNat false))

/-- impl.satisfies$1 -/
noncomputable def impl_satisfies_1 (c_ : (List (Int × Int)) × Int) (o0 : List Bool) : Option Bool :=
  (impl_Constraint_holds c_ o0).bind fun r1_ =>
  some (!r1_)

/-- slices.IndexFunc[[]impl.Constraint,impl.Constraint] -/
noncomputable def slices_IndexFunc_impl_Constraint__impl_satisfies_1_l1 (s_ : List ((List (Int × Int)) × Int)) (o0 : List Bool) : Int → Option (Int ⊕ Int) := fun i =>
  cond (decide (i < (s_.length:Int))) (
    rq (0 ≤ i ∧ i < s_.length) <|
    (impl_satisfies_1 (s_.getD i.toNat ([], 0)) o0).bind fun r1_ =>
    cond r1_ (
      some (.inr i)) (
      rq (i64 (i + (1:Int))) <|
      some (.inl (i + (1:Int))))) (
    some (.inr (-1:Int)))

noncomputable def slices_IndexFunc_impl_Constraint__impl_satisfies_1 (s_ : List ((List (Int × Int)) × Int)) (o0 : List Bool) : Option Int :=
  loop (slices_IndexFunc_impl_Constraint__impl_satisfies_1_l1 s_ o0) (0:Int)

/-- slices.ContainsFunc[[]impl.Constraint,impl.Constraint] -/
noncomputable def slices_ContainsFunc_impl_Constraint__impl_satisfies_1 (s_ : List ((List (Int × Int)) × Int)) (o0 : List Bool) : Option Bool :=
  (slices_IndexFunc_impl_Constraint__impl_satisfies_1 s_ o0).bind fun r1_ =>
  some (decide ((0:Int) ≤ r1_))

/-- impl.satisfies -/
noncomputable def impl_satisfies (list_ : List ((List (Int × Int)) × Int)) (values : List Bool) : Option Bool :=
  (slices_ContainsFunc_impl_Constraint__impl_satisfies_1 list_ values).bind fun r1_ =>
  some (!r1_)

/-- impl.CountSolutions -/
noncomputable def impl_CountSolutions_l1 (list_ : List ((List (Int × Int)) × Int)) : Int × Int → Option ((Int × Int) ⊕ Int) := fun (count, i) =>
  cond (decide (i < (4096:Int))) (
    (impl_numbered i).bind fun r2_ =>
    (impl_satisfies list_ r2_).bind fun r3_ =>
    cond r3_ (
      rq (i64 (count + (1:Int))) <|
      rq (i64 (i + (1:Int))) <|
      some (.inl ((count + (1:Int)), (i + (1:Int))))) (
      rq (i64 (i + (1:Int))) <|
      some (.inl (count, (i + (1:Int)))))) (
    some (.inr count))

noncomputable def impl_CountSolutions (list_ : List ((List (Int × Int)) × Int)) : Option Int :=
  (impl_ProblemValid list_).bind fun r1_ =>
  cond (!r1_) (
    some (0:Int)) (
    loop (impl_CountSolutions_l1 list_) ((0:Int), (0:Int)))

/-- laws.FnSubProblem -/
noncomputable def laws_FnSubProblem (code : List Int) : Option Bool :=
  cond (decide ((1048576:Int) < (code.length:Int))) (
    some true) (
    (spec_DrawSubProblem code).bind fun r1_ =>
    (impl_SubProblem r1_.1 r1_.2).bind fun r2_ =>
    (spec_SubProblem r1_.1 r1_.2).bind fun r3_ =>
    cond (r2_.1 != r3_.1) (
      cond (r2_.1 == r3_.1) (
        (laws_cpProblem r2_.2 r3_.2).bind fun r7_ =>
        some r7_) (
        some false)) (
      (laws_cpProblem r2_.2 r3_.2).bind fun r4_ =>
      cond (!r4_) (
        cond (r2_.1 == r3_.1) (
          (laws_cpProblem r2_.2 r3_.2).bind fun r6_ =>
          some r6_) (
          some false)) (
        cond (!r2_.1) (
          cond (r2_.1 == r3_.1) (
            (laws_cpProblem r2_.2 r3_.2).bind fun r5_ =>
            some r5_) (
            some false)) (
          (impl_CountSolutions r1_.1).bind fun r8_ =>
          (impl_CountSolutions r2_.2).bind fun r9_ =>
          cond (decide (r8_ ≤ r9_)) (
            some ((r2_.2.length:Int) == (r1_.2.length:Int))) (
            some false)))))

/-- laws.szTermS -/
noncomputable def laws_szTermS (a : List (Int × Int)) (left : Int) : Option Int :=
  rq (i64 (left - (a.length:Int))) <|
  cond (decide ((left - (a.length:Int)) < (0:Int))) (
    some (-1:Int)) (
    some (left - (a.length:Int)))

/-- laws.szConstraint -/
noncomputable def laws_szConstraint (a : (List (Int × Int)) × Int) (left : Int) : Option Int :=
  (laws_szTermS a.1 left).bind fun r1_ =>
  cond (decide (r1_ < (0:Int))) (
    some (-1:Int)) (
    some r1_)

/-- laws.szConstraintS -/
noncomputable def laws_szConstraintS_l1 (a : List ((List (Int × Int)) × Int)) : Int × Int → Option ((Int × Int) ⊕ Int) := fun (left1, i) =>
  cond (decide (i < (a.length:Int))) (
    rq (0 ≤ i ∧ i < a.length) <|
    (laws_szConstraint (a.getD i.toNat ([], 0)) left1).bind fun r1_ =>
    cond (decide (r1_ < (0:Int))) (
      some (.inr (-1:Int))) (
      rq (i64 (i + (1:Int))) <|
      some (.inl (r1_, (i + (1:Int)))))) (
    some (.inr left1))

noncomputable def laws_szConstraintS (a : List ((List (Int × Int)) × Int)) (left : Int) : Option Int :=
  rq (i64 (left - (a.length:Int))) <|
  cond (decide ((left - (a.length:Int)) < (0:Int))) (
    some (-1:Int)) (
    loop (laws_szConstraintS_l1 a) ((left - (a.length:Int)), (0:Int)))

/-- laws.toTerm -/
noncomputable def laws_toTerm (a : Int × Int) : Option ((Int × Int)) :=
  some a

/-- laws.toTermS -/
noncomputable def laws_toTermS_l1 (a : List (Int × Int)) : Int × (List (Int × Int)) → Option ((Int × (List (Int × Int))) ⊕ ((List (Int × Int)))) := fun (i, out) =>
  cond (decide (i < (a.length:Int))) (
    rq (0 ≤ i ∧ i < a.length) <|
    (laws_toTerm (a.getD i.toNat (0, 0))).bind fun r2_ =>
    rq (0 ≤ i ∧ i < out.length) <|
    rq (i64 (i + (1:Int))) <|
    some (.inl ((i + (1:Int)), (out.set i.toNat r2_)))) (
    some (.inr out))

noncomputable def laws_toTermS (a : List (Int × Int)) : Option ((List (Int × Int))) :=
  rq (0 ≤ (a.length:Int) ∧ (a.length:Int) ≤ bound ∧ (a.length:Int) = (a.length:Int)) <|
  loop (laws_toTermS_l1 a) ((0:Int), (List.replicate (a.length:Int).toNat (0, 0)))

/-- laws.toConstraint -/
noncomputable def laws_toConstraint (a : (List (Int × Int)) × Int) : Option (Int × (List (Int × Int))) :=
  (laws_toTermS a.1).bind fun r1_ =>
  some (a.2, r1_)

/-- laws.toConstraintS -/
noncomputable def laws_toConstraintS_l1 (a : List ((List (Int × Int)) × Int)) : Int × (List ((List (Int × Int)) × Int)) → Option ((Int × (List ((List (Int × Int)) × Int))) ⊕ ((List ((List (Int × Int)) × Int)))) := fun (i, out) =>
  cond (decide (i < (a.length:Int))) (
    rq (0 ≤ i ∧ i < a.length) <|
    (laws_toConstraint (a.getD i.toNat ([], 0))).bind fun r2_ =>
    rq (0 ≤ i ∧ i < out.length) <|
    rq (i64 (i + (1:Int))) <|
    some (.inl ((i + (1:Int)), (out.set i.toNat (r2_.2, r2_.1))))) (
    some (.inr out))

noncomputable def laws_toConstraintS (a : List ((List (Int × Int)) × Int)) : Option ((List ((List (Int × Int)) × Int))) :=
  rq (0 ≤ (a.length:Int) ∧ (a.length:Int) ≤ bound ∧ (a.length:Int) = (a.length:Int)) <|
  loop (laws_toConstraintS_l1 a) ((0:Int), (List.replicate (a.length:Int).toNat ([], 0)))

/-- laws.toBoolS -/
noncomputable def laws_toBoolS_l1 (a : List Bool) : Int × (List Bool) → Option ((Int × (List Bool)) ⊕ (List Bool)) := fun (i, out) =>
  cond (decide (i < (a.length:Int))) (
    rq (0 ≤ i ∧ i < a.length) <|
    rq (0 ≤ i ∧ i < out.length) <|
    rq (i64 (i + (1:Int))) <|
    some (.inl ((i + (1:Int)), (out.set i.toNat (a.getD i.toNat false))))) (
    some (.inr out))

noncomputable def laws_toBoolS (a : List Bool) : Option (List Bool) :=
  rq (0 ≤ (a.length:Int) ∧ (a.length:Int) ≤ bound ∧ (a.length:Int) = (a.length:Int)) <|
  loop (laws_toBoolS_l1 a) ((0:Int), (List.replicate (a.length:Int).toNat false))

/-- laws.eqBoolS -/
noncomputable def laws_eqBoolS_l1 (a : List Bool) (b : List Bool) : Int → Option (Int ⊕ Bool) := fun i =>
  cond (decide (i < (a.length:Int))) (
    rq (0 ≤ i ∧ i < a.length) <|
    rq (0 ≤ i ∧ i < b.length) <|
    cond ((a.getD i.toNat false) != (b.getD i.toNat false)) (
      some (.inr false)) (
      rq (i64 (i + (1:Int))) <|
      some (.inl (i + (1:Int))))) (
    some (.inr true))

noncomputable def laws_eqBoolS (a : List Bool) (b : List Bool) : Option Bool :=
  cond ((a.length:Int) != (b.length:Int)) (
    some false) (
    loop (laws_eqBoolS_l1 a b) (0:Int))

/-- laws.eqTerm -/
noncomputable def laws_eqTerm (a : Int × Int) (b : Int × Int) : Option Bool :=
  cond (a.1 != b.1) (
    some false) (
    cond (a.2 != b.2) (
      some false) (
      some true))

/-- laws.eqTermS -/
noncomputable def laws_eqTermS_l1 (a : List (Int × Int)) (b : List (Int × Int)) : Int → Option (Int ⊕ Bool) := fun i =>
  cond (decide (i < (a.length:Int))) (
    rq (0 ≤ i ∧ i < a.length) <|
    rq (0 ≤ i ∧ i < b.length) <|
    (laws_eqTerm (a.getD i.toNat (0, 0)) (b.getD i.toNat (0, 0))).bind fun r2_ =>
    cond (!r2_) (
      some (.inr false)) (
      rq (i64 (i + (1:Int))) <|
      some (.inl (i + (1:Int))))) (
    some (.inr true))

noncomputable def laws_eqTermS (a : List (Int × Int)) (b : List (Int × Int)) : Option Bool :=
  cond ((a.length:Int) != (b.length:Int)) (
    some false) (
    loop (laws_eqTermS_l1 a b) (0:Int))

/-- laws.eqConstraint -/
noncomputable def laws_eqConstraint (a : (List (Int × Int)) × Int) (b : (List (Int × Int)) × Int) : Option Bool :=
  (laws_eqTermS a.1 b.1).bind fun r1_ =>
  cond (!r1_) (
    some false) (
    cond (a.2 != b.2) (
      some false) (
      some true))

/-- laws.eqConstraintS -/
noncomputable def laws_eqConstraintS_l1 (a : List ((List (Int × Int)) × Int)) (b : List ((List (Int × Int)) × Int)) : Int → Option (Int ⊕ Bool) := fun i =>
  cond (decide (i < (a.length:Int))) (
    rq (0 ≤ i ∧ i < a.length) <|
    rq (0 ≤ i ∧ i < b.length) <|
    (laws_eqConstraint (a.getD i.toNat ([], 0)) (b.getD i.toNat ([], 0))).bind fun r2_ =>
    cond (!r2_) (
      some (.inr false)) (
      rq (i64 (i + (1:Int))) <|
      some (.inl (i + (1:Int))))) (
    some (.inr true))

noncomputable def laws_eqConstraintS (a : List ((List (Int × Int)) × Int)) (b : List ((List (Int × Int)) × Int)) : Option Bool :=
  cond ((a.length:Int) != (b.length:Int)) (
    some false) (
    loop (laws_eqConstraintS_l1 a b) (0:Int))

/-- laws.markTermS -/
noncomputable def laws_markTermS__d_l1 : Int × Int × (List (Int × Int)) → Option ((Int × Int × (List (Int × Int))) ⊕ (Int × (List (Int × Int)))) := fun (k_1, i, a1) =>
  cond (decide (i < (a1.length:Int))) (
    rq (0 ≤ i ∧ i < a1.length) <|
    rq (i64 (k_1 + (1:Int))) <|
    rq (0 ≤ i ∧ i < (a1.set i.toNat (k_1, (a1.getD i.toNat (0, 0)).2)).length) <|
    rq (i64 ((k_1 + (1:Int)) + (1:Int))) <|
    rq (i64 (i + (1:Int))) <|
    some (.inl (((k_1 + (1:Int)) + (1:Int)), (i + (1:Int)), ((a1.set i.toNat (k_1, (a1.getD i.toNat (0, 0)).2)).set i.toNat (((a1.set i.toNat (k_1, (a1.getD i.toNat (0, 0)).2)).getD i.toNat (0, 0)).1, (k_1 + (1:Int))))))) (
    some (.inr (k_1, a1)))

noncomputable def laws_markTermS__d (k_ : Int) (a : List (Int × Int)) : Option (Int × (List (Int × Int))) :=
  loop (laws_markTermS__d_l1) (k_, (0:Int), a)

/-- laws.markConstraintS -/
noncomputable def laws_markConstraintS_l1 : Int × Int × (List ((List (Int × Int)) × Int)) → Option ((Int × Int × (List ((List (Int × Int)) × Int))) ⊕ (Int × (List ((List (Int × Int)) × Int)))) := fun (k_1, i, a1) =>
  cond (decide (i < (a1.length:Int))) (
    rq (0 ≤ i ∧ i < a1.length) <|
    (laws_markTermS__d k_1 (a1.getD i.toNat ([], 0)).1).bind fun r2_ =>
    rq (0 ≤ i ∧ i < a1.length) <|
    rq (i64 (r2_.1 + (1:Int))) <|
    rq (i64 (i + (1:Int))) <|
    some (.inl ((r2_.1 + (1:Int)), (i + (1:Int)), ((a1.set i.toNat ((a1.getD i.toNat ([], 0)).1, r2_.1)).set i.toNat (r2_.2, ((a1.set i.toNat ((a1.getD i.toNat ([], 0)).1, r2_.1)).getD i.toNat ([], 0)).2))))) (
    some (.inr (k_1, a1)))

noncomputable def laws_markConstraintS (k_ : Int) (a : List ((List (Int × Int)) × Int)) : Option (Int × (List ((List (Int × Int)) × Int))) :=
  loop (laws_markConstraintS_l1) (k_, (0:Int), a)

/-- laws.markBoolS -/
noncomputable def laws_markBoolS_l1 : Int × Int × (List Bool) → Option ((Int × Int × (List Bool)) ⊕ (Int × (List Bool))) := fun (k_1, i, a1) =>
  cond (decide (i < (a1.length:Int))) (
    rq (1 ≤ (3:Int) ∧ 0 ≤ k_1) <|
    rq (0 ≤ i ∧ i < a1.length) <|
    rq (i64 (k_1 + (1:Int))) <|
    rq (i64 (i + (1:Int))) <|
    some (.inl ((k_1 + (1:Int)), (i + (1:Int)), (a1.set i.toNat ((k_1 % (3:Int)) == (0:Int)))))) (
    some (.inr (k_1, a1)))

noncomputable def laws_markBoolS (k_ : Int) (a : List Bool) : Option (Int × (List Bool)) :=
  loop (laws_markBoolS_l1) (k_, (0:Int), a)

/-- laws.heldBoolS -/
noncomputable def laws_heldBoolS_l1 (a : List Bool) : Int × Int → Option ((Int × Int) ⊕ Int) := fun (k_1, i) =>
  cond (decide (i < (a.length:Int))) (
    rq (0 ≤ i ∧ i < a.length) <|
    rq (1 ≤ (3:Int) ∧ 0 ≤ k_1) <|
    cond ((a.getD i.toNat false) != ((k_1 % (3:Int)) == (0:Int))) (
      some (.inr (-1:Int))) (
      rq (i64 (k_1 + (1:Int))) <|
      rq (i64 (i + (1:Int))) <|
      some (.inl ((k_1 + (1:Int)), (i + (1:Int)))))) (
    some (.inr k_1))

noncomputable def laws_heldBoolS (a : List Bool) (k_ : Int) : Option Int :=
  loop (laws_heldBoolS_l1 a) (k_, (0:Int))

/-- laws.FnExactFlipBest -/
noncomputable def laws_FnExactFlipBest (a0 : List ((List (Int × Int)) × Int)) (a1 : List Bool) : Option Bool :=
  cond (decide ((1048576:Int) < (a1.length:Int))) (
    some true) (
    (laws_szConstraintS a0 (1048576:Int)).bind fun r1_ =>
    cond (decide (r1_ < (0:Int))) (
      some true) (
      (laws_toConstraintS a0).bind fun r2_ =>
      (laws_toBoolS a1).bind fun r3_ =>
      (spec_FlipBest r2_ r3_).bind fun r4_ =>
      (laws_toConstraintS a0).bind fun r5_ =>
      (laws_toBoolS a1).bind fun r6_ =>
      (impl_FlipBest r5_ r6_).bind fun r7_ =>
      (laws_eqBoolS r7_.2.2 r4_.2.2).bind fun r8_ =>
      cond (!r8_) (
        some false) (
        cond (r7_.1 != r4_.1) (
          some false) (
          cond (r7_.2.1 != r4_.2.1) (
            some false) (
            (laws_toConstraintS a0).bind fun r9_ =>
            (laws_eqConstraintS r5_ r9_).bind fun r10_ =>
            cond (!r10_) (
              some false) (
              (laws_toBoolS a1).bind fun r11_ =>
              (laws_eqBoolS r6_ r11_).bind fun r12_ =>
              cond (!r12_) (
                some false) (
                (laws_markConstraintS (1:Int) r5_).bind fun r13_ =>
                (laws_markBoolS r13_.1 r6_).bind fun r14_ =>
                cond (decide (r14_.1 < (0:Int))) (
                  some false) (
                  (laws_eqBoolS r7_.2.2 r4_.2.2).bind fun r15_ =>
                  cond (!r15_) (
                    some false) (
                    cond (r7_.1 != r4_.1) (
                      some false) (
                      cond (r7_.2.1 != r4_.2.1) (
                        some false) (
                        (laws_markBoolS (1:Int) r7_.2.2).bind fun r16_ =>
                        (laws_heldBoolS r16_.2 (1:Int)).bind fun r17_ =>
                        cond (decide (r17_ < (0:Int))) (
                          some false) (
                          cond (r17_ != r16_.1) (
                            some false) (
                            (laws_toConstraintS a0).bind fun r18_ =>
                            (laws_toBoolS a1).bind fun r19_ =>
                            (impl_FlipBest r18_ r19_).bind fun r20_ =>
                            (laws_eqBoolS r20_.2.2 r4_.2.2).bind fun r21_ =>
                            cond (!r21_) (
                              some false) (
                              cond (r20_.1 != r4_.1) (
                                some false) (
                                cond (r20_.2.1 != r4_.2.1) (
                                  some false) (
                                  (laws_heldBoolS r16_.2 (1:Int)).bind fun r22_ =>
                                  cond (decide (r22_ < (0:Int))) (
                                    some false) (
                                    cond (r22_ != r16_.1) (
                                      some false) (
                                      some true))))))))))))))))))

/-- laws.szIntS -/
noncomputable def laws_szIntS (a : List Int) (left : Int) : Option Int :=
  rq (i64 (left - (a.length:Int))) <|
  cond (decide ((left - (a.length:Int)) < (0:Int))) (
    some (-1:Int)) (
    some (left - (a.length:Int)))

/-- laws.szIntSS -/
noncomputable def laws_szIntSS_l1 (a : List (List Int)) : Int × Int → Option ((Int × Int) ⊕ Int) := fun (left1, i) =>
  cond (decide (i < (a.length:Int))) (
    rq (0 ≤ i ∧ i < a.length) <|
    (laws_szIntS (a.getD i.toNat []) left1).bind fun r1_ =>
    cond (decide (r1_ < (0:Int))) (
      some (.inr (-1:Int))) (
      rq (i64 (i + (1:Int))) <|
      some (.inl (r1_, (i + (1:Int)))))) (
    some (.inr left1))

noncomputable def laws_szIntSS (a : List (List Int)) (left : Int) : Option Int :=
  rq (i64 (left - (a.length:Int))) <|
  cond (decide ((left - (a.length:Int)) < (0:Int))) (
    some (-1:Int)) (
    loop (laws_szIntSS_l1 a) ((left - (a.length:Int)), (0:Int)))

/-- laws.szRule -/
noncomputable def laws_szRule (a : Int × (List Int) × (List Int) × Int × (List (List Int))) (left : Int) : Option Int :=
  (laws_szIntS a.2.1 left).bind fun r1_ =>
  cond (decide (r1_ < (0:Int))) (
    some (-1:Int)) (
    (laws_szIntS a.2.2.1 r1_).bind fun r2_ =>
    cond (decide (r2_ < (0:Int))) (
      some (-1:Int)) (
      (laws_szIntSS a.2.2.2.2 r2_).bind fun r3_ =>
      cond (decide (r3_ < (0:Int))) (
        some (-1:Int)) (
        some r3_)))

/-- laws.szRuleS -/
noncomputable def laws_szRuleS_l1 (a : List (Int × (List Int) × (List Int) × Int × (List (List Int)))) : Int × Int → Option ((Int × Int) ⊕ Int) := fun (left1, i) =>
  cond (decide (i < (a.length:Int))) (
    rq (0 ≤ i ∧ i < a.length) <|
    (laws_szRule (a.getD i.toNat (0, ([], ([], (0, []))))) left1).bind fun r1_ =>
    cond (decide (r1_ < (0:Int))) (
      some (.inr (-1:Int))) (
      rq (i64 (i + (1:Int))) <|
      some (.inl (r1_, (i + (1:Int)))))) (
    some (.inr left1))

noncomputable def laws_szRuleS (a : List (Int × (List Int) × (List Int) × Int × (List (List Int)))) (left : Int) : Option Int :=
  rq (i64 (left - (a.length:Int))) <|
  cond (decide ((left - (a.length:Int)) < (0:Int))) (
    some (-1:Int)) (
    loop (laws_szRuleS_l1 a) ((left - (a.length:Int)), (0:Int)))

/-- laws.szModel -/
noncomputable def laws_szModel (a : (List Int) × (List (Int × (List Int) × (List Int) × Int × (List (List Int))))) (left : Int) : Option Int :=
  (laws_szIntS a.1 left).bind fun r1_ =>
  cond (decide (r1_ < (0:Int))) (
    some (-1:Int)) (
    (laws_szRuleS a.2 r1_).bind fun r2_ =>
    cond (decide (r2_ < (0:Int))) (
      some (-1:Int)) (
      some r2_))

/-- laws.toIntS -/
noncomputable def laws_toIntS_l1 (a : List Int) : Int × (List Int) → Option ((Int × (List Int)) ⊕ (List Int)) := fun (i, out) =>
  cond (decide (i < (a.length:Int))) (
    rq (0 ≤ i ∧ i < a.length) <|
    rq (0 ≤ i ∧ i < out.length) <|
    rq (i64 (i + (1:Int))) <|
    some (.inl ((i + (1:Int)), (out.set i.toNat (a.getD i.toNat 0))))) (
    some (.inr out))

noncomputable def laws_toIntS (a : List Int) : Option (List Int) :=
  rq (0 ≤ (a.length:Int) ∧ (a.length:Int) ≤ bound ∧ (a.length:Int) = (a.length:Int)) <|
  loop (laws_toIntS_l1 a) ((0:Int), (List.replicate (a.length:Int).toNat 0))

/-- laws.toIntSS -/
noncomputable def laws_toIntSS_l1 (a : List (List Int)) : Int × (List (List Int)) → Option ((Int × (List (List Int))) ⊕ (List (List Int))) := fun (i, out) =>
  cond (decide (i < (a.length:Int))) (
    rq (0 ≤ i ∧ i < a.length) <|
    (laws_toIntS (a.getD i.toNat [])).bind fun r2_ =>
    rq (0 ≤ i ∧ i < out.length) <|
    rq (i64 (i + (1:Int))) <|
    some (.inl ((i + (1:Int)), (out.set i.toNat r2_)))) (
    some (.inr out))

noncomputable def laws_toIntSS (a : List (List Int)) : Option (List (List Int)) :=
  rq (0 ≤ (a.length:Int) ∧ (a.length:Int) ≤ bound ∧ (a.length:Int) = (a.length:Int)) <|
  loop (laws_toIntSS_l1 a) ((0:Int), (List.replicate (a.length:Int).toNat []))

/-- laws.toRule -/
noncomputable def laws_toRule (a : Int × (List Int) × (List Int) × Int × (List (List Int))) : Option (Int × Int × (List Int) × (List Int) × (List (List Int))) :=
  (laws_toIntS a.2.1).bind fun r1_ =>
  (laws_toIntS a.2.2.1).bind fun r2_ =>
  (laws_toIntSS a.2.2.2.2).bind fun r3_ =>
  some (a.1, a.2.2.2.1, r1_, r2_, r3_)

/-- laws.toRuleS -/
noncomputable def laws_toRuleS_l1 (a : List (Int × (List Int) × (List Int) × Int × (List (List Int)))) : Int × (List (Int × (List Int) × (List Int) × Int × (List (List Int)))) → Option ((Int × (List (Int × (List Int) × (List Int) × Int × (List (List Int))))) ⊕ ((List (Int × (List Int) × (List Int) × Int × (List (List Int)))))) := fun (i, out) =>
  cond (decide (i < (a.length:Int))) (
    rq (0 ≤ i ∧ i < a.length) <|
    (laws_toRule (a.getD i.toNat (0, ([], ([], (0, [])))))).bind fun r2_ =>
    rq (0 ≤ i ∧ i < out.length) <|
    rq (i64 (i + (1:Int))) <|
    some (.inl ((i + (1:Int)), (out.set i.toNat (r2_.1, (r2_.2.2.1, (r2_.2.2.2.1, (r2_.2.1, r2_.2.2.2.2)))))))) (
    some (.inr out))

noncomputable def laws_toRuleS (a : List (Int × (List Int) × (List Int) × Int × (List (List Int)))) : Option ((List (Int × (List Int) × (List Int) × Int × (List (List Int))))) :=
  rq (0 ≤ (a.length:Int) ∧ (a.length:Int) ≤ bound ∧ (a.length:Int) = (a.length:Int)) <|
  loop (laws_toRuleS_l1 a) ((0:Int), (List.replicate (a.length:Int).toNat (0, ([], ([], (0, []))))))

/-- laws.toModel -/
noncomputable def laws_toModel (a : (List Int) × (List (Int × (List Int) × (List Int) × Int × (List (List Int))))) : Option ((List Int) × (List (Int × (List Int) × (List Int) × Int × (List (List Int))))) :=
  (laws_toIntS a.1).bind fun r1_ =>
  (laws_toRuleS a.2).bind fun r2_ =>
  some (r1_, r2_)

/-- spec.l6Vars -/
noncomputable def spec_l6Vars_l2 (list_ : List Int) (i : Int) : Int → Option (Int ⊕ (Int ⊕ Bool)) := fun k_ =>
  cond (decide (k_ < i)) (
    rq (0 ≤ k_ ∧ k_ < list_.length) <|
    rq (0 ≤ i ∧ i < list_.length) <|
    cond ((list_.getD k_.toNat 0) == (list_.getD i.toNat 0)) (
      some (.inr (.inr false))) (
      rq (i64 (k_ + (1:Int))) <|
      some (.inl (k_ + (1:Int))))) (
    rq (i64 (i + (1:Int))) <|
    some (.inr (.inl (i + (1:Int)))))

noncomputable def spec_l6Vars_l1 (m : (List Int) × (List (Int × (List Int) × (List Int) × Int × (List (List Int))))) (list_ : List Int) : Int → Option (Int ⊕ Bool) := fun i =>
  cond (decide (i < (list_.length:Int))) (
    rq (0 ≤ i ∧ i < list_.length) <|
    cond (decide ((list_.getD i.toNat 0) < (0:Int))) (
      some (.inr false)) (
      rq (0 ≤ i ∧ i < list_.length) <|
      cond (decide ((m.1.length:Int) ≤ (list_.getD i.toNat 0))) (
        some (.inr false)) (
        loop (spec_l6Vars_l2 list_ i) (0:Int)))) (
    some (.inr (decide ((1:Int) ≤ (list_.length:Int)))))

noncomputable def spec_l6Vars (m : (List Int) × (List (Int × (List Int) × (List Int) × Int × (List (List Int))))) (list_ : List Int) : Option Bool :=
  loop (spec_l6Vars_l1 m list_) (0:Int)

/-- spec.l6Linear -/
noncomputable def spec_l6Linear_l1 (r_ : Int × (List Int) × (List Int) × Int × (List (List Int))) : Int → Option (Int ⊕ Bool) := fun i =>
  cond (decide (i < (r_.2.2.1.length:Int))) (
    rq (0 ≤ i ∧ i < r_.2.2.1.length) <|
    cond (decide ((r_.2.2.1.getD i.toNat 0) < (-9:Int))) (
      some (.inr false)) (
      rq (0 ≤ i ∧ i < r_.2.2.1.length) <|
      cond (decide ((9:Int) < (r_.2.2.1.getD i.toNat 0))) (
        some (.inr false)) (
        rq (0 ≤ i ∧ i < r_.2.2.1.length) <|
        cond ((r_.2.2.1.getD i.toNat 0) == (0:Int)) (
          some (.inr false)) (
          rq (i64 (i + (1:Int))) <|
          some (.inl (i + (1:Int))))))) (
    cond ((r_.2.2.1.length:Int) == (r_.2.1.length:Int)) (
      cond (decide ((-1000:Int) ≤ r_.2.2.2.1)) (
        some (.inr (decide (r_.2.2.2.1 ≤ (1000:Int))))) (
        some (.inr false))) (
      some (.inr false)))

noncomputable def spec_l6Linear (r_ : Int × (List Int) × (List Int) × Int × (List (List Int))) : Option Bool :=
  loop (spec_l6Linear_l1 r_) (0:Int)

/-- spec.l6Table -/
noncomputable def spec_l6Table_l2 (r_ : Int × (List Int) × (List Int) × Int × (List (List Int))) (i : Int) : Int → Option (Int ⊕ (Int ⊕ Bool)) := fun k_ =>
  rq (0 ≤ i ∧ i < r_.2.2.2.2.length) <|
  cond (decide (k_ < ((r_.2.2.2.2.getD i.toNat []).length:Int))) (
    rq (0 ≤ i ∧ i < r_.2.2.2.2.length) <|
    rq (0 ≤ k_ ∧ k_ < (r_.2.2.2.2.getD i.toNat []).length) <|
    cond (decide (((r_.2.2.2.2.getD i.toNat []).getD k_.toNat 0) < (0:Int))) (
      some (.inr (.inr false))) (
      rq (0 ≤ i ∧ i < r_.2.2.2.2.length) <|
      rq (0 ≤ k_ ∧ k_ < (r_.2.2.2.2.getD i.toNat []).length) <|
      cond (decide ((3:Int) < ((r_.2.2.2.2.getD i.toNat []).getD k_.toNat 0))) (
        some (.inr (.inr false))) (
        rq (i64 (k_ + (1:Int))) <|
        some (.inl (k_ + (1:Int)))))) (
    rq (i64 (i + (1:Int))) <|
    some (.inr (.inl (i + (1:Int)))))

noncomputable def spec_l6Table_l1 (r_ : Int × (List Int) × (List Int) × Int × (List (List Int))) : Int → Option (Int ⊕ Bool) := fun i =>
  cond (decide (i < (r_.2.2.2.2.length:Int))) (
    rq (0 ≤ i ∧ i < r_.2.2.2.2.length) <|
    cond (((r_.2.2.2.2.getD i.toNat []).length:Int) != (r_.2.1.length:Int)) (
      some (.inr false)) (
      loop (spec_l6Table_l2 r_ i) (0:Int))) (
    some (.inr (decide ((r_.2.2.2.2.length:Int) ≤ (8:Int)))))

noncomputable def spec_l6Table (r_ : Int × (List Int) × (List Int) × Int × (List (List Int))) : Option Bool :=
  loop (spec_l6Table_l1 r_) (0:Int)

/-- spec.l6Rule -/
noncomputable def spec_l6Rule_j1 (r_ : Int × (List Int) × (List Int) × Int × (List (List Int))) : Unit → Option Bool := fun _ =>
  cond (r_.1 == (1:Int)) (
    (spec_l6Linear r_).bind fun r2_ =>
    some r2_) (
    cond (r_.1 == (2:Int)) (
      some true) (
      cond (r_.1 == (3:Int)) (
        (spec_l6Table r_).bind fun r3_ =>
        some r3_) (
        cond (r_.1 == (4:Int)) (
          some ((r_.2.1.length:Int) == (2:Int))) (
          some false))))

noncomputable def spec_l6Rule (m : (List Int) × (List (Int × (List Int) × (List Int) × Int × (List (List Int))))) (r_ : Int × (List Int) × (List Int) × Int × (List (List Int))) : Option Bool :=
  (spec_l6Vars m r_.2.1).bind fun r1_ =>
  cond (!r1_) (
    some false) (
    cond (r_.1 != (1:Int)) (
      cond ((r_.2.2.1.length:Int) != (0:Int)) (
        some false) (
        cond (r_.2.2.2.1 != (0:Int)) (
          some false) (
          cond (r_.1 != (3:Int)) (
            cond ((r_.2.2.2.2.length:Int) != (0:Int)) (
              some false) (
              spec_l6Rule_j1 r_ ())) (
            spec_l6Rule_j1 r_ ())))) (
      cond (r_.1 != (3:Int)) (
        cond ((r_.2.2.2.2.length:Int) != (0:Int)) (
          some false) (
          spec_l6Rule_j1 r_ ())) (
        spec_l6Rule_j1 r_ ())))

/-- spec.ModelValid -/
noncomputable def spec_ModelValid_l1 (a0 : (List Int) × (List (Int × (List Int) × (List Int) × Int × (List (List Int))))) : Int → Option (Int ⊕ Bool) := fun i3 =>
  cond (decide (i3 < (a0.2.length:Int))) (
    rq (0 ≤ i3 ∧ i3 < a0.2.length) <|
    (spec_l6Rule a0 (a0.2.getD i3.toNat (0, ([], ([], (0, [])))))).bind fun r2_ =>
    cond (!r2_) (
      some (.inr false)) (
      rq (i64 (i3 + (1:Int))) <|
      some (.inl (i3 + (1:Int))))) (
    some (.inr true))

noncomputable def spec_ModelValid_j1 (a0 : (List Int) × (List (Int × (List Int) × (List Int) × Int × (List (List Int))))) : Int → Option Bool := fun i2 =>
  cond (decide ((a0.1.length:Int) < (1:Int))) (
    some false) (
    cond (decide ((5:Int) < (a0.1.length:Int))) (
      some false) (
      cond (decide ((12:Int) < i2)) (
        some false) (
        cond (decide ((8:Int) < (a0.2.length:Int))) (
          some false) (
          loop (spec_ModelValid_l1 a0) (0:Int)))))

noncomputable def spec_ModelValid_l2 (a0 : (List Int) × (List (Int × (List Int) × (List Int) × Int × (List (List Int))))) : Int × Int → Option ((Int × Int) ⊕ Bool) := fun (i, i1) =>
  cond (decide (i1 < (a0.1.length:Int))) (
    cond (decide (i1 < (5:Int))) (
      rq (0 ≤ i1 ∧ i1 < a0.1.length) <|
      cond (decide ((a0.1.getD i1.toNat 0) < (0:Int))) (
        some (.inr false)) (
        rq (0 ≤ i1 ∧ i1 < a0.1.length) <|
        cond (decide ((3:Int) < (a0.1.getD i1.toNat 0))) (
          some (.inr false)) (
          rq (0 ≤ i1 ∧ i1 < a0.1.length) <|
          rq (i64 (i + (a0.1.getD i1.toNat 0))) <|
          rq (i64 ((i + (a0.1.getD i1.toNat 0)) + (1:Int))) <|
          rq (i64 (i1 + (1:Int))) <|
          some (.inl (((i + (a0.1.getD i1.toNat 0)) + (1:Int)), (i1 + (1:Int))))))) (
      up (spec_ModelValid_j1 a0 i))) (
    up (spec_ModelValid_j1 a0 i))

noncomputable def spec_ModelValid (a0 : (List Int) × (List (Int × (List Int) × (List Int) × Int × (List (List Int))))) : Option Bool :=
  loop (spec_ModelValid_l2 a0) ((0:Int), (0:Int))

/-- spec.PermValid -/
noncomputable def spec_PermValid_l1 (m : (List Int) × (List (Int × (List Int) × (List Int) × Int × (List (List Int))))) (perm : List Int) : Int → Option (Int ⊕ Bool) := fun i =>
  cond (decide (i < (perm.length:Int))) (
    rq (0 ≤ i ∧ i < m.1.length) <|
    rq (0 ≤ i ∧ i < perm.length) <|
    rq (0 ≤ (perm.getD i.toNat 0) ∧ (perm.getD i.toNat 0) < m.1.length) <|
    cond ((m.1.getD i.toNat 0) != (m.1.getD (perm.getD i.toNat 0).toNat 0)) (
      some (.inr false)) (
      rq (i64 (i + (1:Int))) <|
      some (.inl (i + (1:Int))))) (
    some (.inr true))

noncomputable def spec_PermValid (m : (List Int) × (List (Int × (List Int) × (List Int) × Int × (List (List Int))))) (perm : List Int) : Option Bool :=
  (spec_ModelValid m).bind fun r1_ =>
  cond (!r1_) (
    some false) (
    cond ((perm.length:Int) != (m.1.length:Int)) (
      some false) (
      (spec_l6Vars m perm).bind fun r2_ =>
      cond (!r2_) (
        some false) (
        loop (spec_PermValid_l1 m perm) (0:Int))))

/-- slices.Index[[]int,int] -/
noncomputable def slices_Index_int_l1 (s_ : List Int) (v : Int) : Int → Option (Int ⊕ Int) := fun i =>
  cond (decide (i < (s_.length:Int))) (
    rq (0 ≤ i ∧ i < s_.length) <|
    cond (v == (s_.getD i.toNat 0)) (
      some (.inr i)) (
      rq (i64 (i + (1:Int))) <|
      some (.inl (i + (1:Int))))) (
    some (.inr (-1:Int)))

noncomputable def slices_Index_int (s_ : List Int) (v : Int) : Option Int :=
  loop (slices_Index_int_l1 s_ v) (0:Int)

/-- slices.Contains[[]int,int] -/
noncomputable def slices_Contains_int (s_ : List Int) (v : Int) : Option Bool :=
  (slices_Index_int s_ v).bind fun r1_ =>
  some (decide ((0:Int) ≤ r1_))

/-- impl.ruleValid$1 -/
noncomputable def impl_ruleValid_1 (n : Int) : Option Bool :=
  cond (n == (0:Int)) (
    some true) (
    (impl_within n (-9:Int) (9:Int)).bind fun r1_ =>
    some (!r1_))

/-- slices.IndexFunc[[]int,int] -/
noncomputable def slices_IndexFunc_int__impl_ruleValid_1_l1 (s_ : List Int) : Int → Option (Int ⊕ Int) := fun i =>
  cond (decide (i < (s_.length:Int))) (
    rq (0 ≤ i ∧ i < s_.length) <|
    (impl_ruleValid_1 (s_.getD i.toNat 0)).bind fun r1_ =>
    cond r1_ (
      some (.inr i)) (
      rq (i64 (i + (1:Int))) <|
      some (.inl (i + (1:Int))))) (
    some (.inr (-1:Int)))

noncomputable def slices_IndexFunc_int__impl_ruleValid_1 (s_ : List Int) : Option Int :=
  loop (slices_IndexFunc_int__impl_ruleValid_1_l1 s_) (0:Int)

/-- slices.ContainsFunc[[]int,int] -/
noncomputable def slices_ContainsFunc_int__impl_ruleValid_1 (s_ : List Int) : Option Bool :=
  (slices_IndexFunc_int__impl_ruleValid_1 s_).bind fun r1_ =>
  some (decide ((0:Int) ≤ r1_))

/-- impl.ruleValid$2$1 -/
noncomputable def impl_ruleValid_2_1 (n : Int) : Option Bool :=
  (impl_within n (0:Int) (3:Int)).bind fun r1_ =>
  some (!r1_)

/-- slices.IndexFunc[[]int,int] -/
noncomputable def slices_IndexFunc_int__impl_ruleValid_2_1_l1 (s_ : List Int) : Int → Option (Int ⊕ Int) := fun i =>
  cond (decide (i < (s_.length:Int))) (
    rq (0 ≤ i ∧ i < s_.length) <|
    (impl_ruleValid_2_1 (s_.getD i.toNat 0)).bind fun r1_ =>
    cond r1_ (
      some (.inr i)) (
      rq (i64 (i + (1:Int))) <|
      some (.inl (i + (1:Int))))) (
    some (.inr (-1:Int)))

noncomputable def slices_IndexFunc_int__impl_ruleValid_2_1 (s_ : List Int) : Option Int :=
  loop (slices_IndexFunc_int__impl_ruleValid_2_1_l1 s_) (0:Int)

/-- slices.ContainsFunc[[]int,int] -/
noncomputable def slices_ContainsFunc_int__impl_ruleValid_2_1 (s_ : List Int) : Option Bool :=
  (slices_IndexFunc_int__impl_ruleValid_2_1 s_).bind fun r1_ =>
  some (decide ((0:Int) ≤ r1_))

/-- impl.ruleValid$2 -/
noncomputable def impl_ruleValid_2 (row : List Int) (o0 : Int × (List Int) × (List Int) × Int × (List (List Int))) : Option Bool :=
  cond ((row.length:Int) != (o0.2.1.length:Int)) (
    some true) (
    (slices_ContainsFunc_int__impl_ruleValid_2_1 row).bind fun r1_ =>
    some r1_)

/-- slices.IndexFunc[[][]int,[]int] -/
noncomputable def slices_IndexFunc_s_int__impl_ruleValid_2_l1 (s_ : List (List Int)) (o0 : Int × (List Int) × (List Int) × Int × (List (List Int))) : Int → Option (Int ⊕ Int) := fun i =>
  cond (decide (i < (s_.length:Int))) (
    rq (0 ≤ i ∧ i < s_.length) <|
    (impl_ruleValid_2 (s_.getD i.toNat []) o0).bind fun r1_ =>
    cond r1_ (
      some (.inr i)) (
      rq (i64 (i + (1:Int))) <|
      some (.inl (i + (1:Int))))) (
    some (.inr (-1:Int)))

noncomputable def slices_IndexFunc_s_int__impl_ruleValid_2 (s_ : List (List Int)) (o0 : Int × (List Int) × (List Int) × Int × (List (List Int))) : Option Int :=
  loop (slices_IndexFunc_s_int__impl_ruleValid_2_l1 s_ o0) (0:Int)

/-- slices.ContainsFunc[[][]int,[]int] -/
noncomputable def slices_ContainsFunc_s_int__impl_ruleValid_2 (s_ : List (List Int)) (o0 : Int × (List Int) × (List Int) × Int × (List (List Int))) : Option Bool :=
  (slices_IndexFunc_s_int__impl_ruleValid_2 s_ o0).bind fun r1_ =>
  some (decide ((0:Int) ≤ r1_))

/-- impl.ruleValid -/
noncomputable def impl_ruleValid_j1 (a0 : Int × (List Int) × (List Int) × Int × (List (List Int))) : Unit → Option (Int ⊕ Bool) := fun _ =>
  cond (a0.1 == (1:Int)) (
    cond ((a0.2.2.1.length:Int) == (a0.2.1.length:Int)) (
      (impl_within a0.2.2.2.1 (-1000:Int) (1000:Int)).bind fun r3_ =>
      cond r3_ (
        (slices_ContainsFunc_int__impl_ruleValid_1 a0.2.2.1).bind fun r4_ =>
        some (.inr (!r4_))) (
        some (.inr false))) (
      some (.inr false))) (
    cond (a0.1 == (3:Int)) (
      cond (decide ((a0.2.2.2.2.length:Int) ≤ (8:Int))) (
        (slices_ContainsFunc_s_int__impl_ruleValid_2 a0.2.2.2.2 a0).bind fun r5_ =>
        some (.inr (!r5_))) (
        some (.inr false))) (
      cond (a0.1 == (4:Int)) (
        some (.inr ((a0.2.1.length:Int) == (2:Int)))) (
        some (.inr (a0.1 == (2:Int))))))

noncomputable def impl_ruleValid_l1 (a0 : Int × (List Int) × (List Int) × Int × (List (List Int))) (a1 : Int) : Int → Option (Int ⊕ Bool) := fun i =>
  cond (decide (i < (a0.2.1.length:Int))) (
    rq (0 ≤ i ∧ i < a0.2.1.length) <|
    rq (i64 (a1 - (1:Int))) <|
    (impl_within (a0.2.1.getD i.toNat 0) (0:Int) (a1 - (1:Int))).bind fun r1_ =>
    cond (!r1_) (
      some (.inr false)) (
      rq (0 ≤ i ∧ i ≤ a0.2.1.length) <|
      (slices_Contains_int (a0.2.1.take i.toNat) (a0.2.1.getD i.toNat 0)).bind fun r2_ =>
      cond r2_ (
        some (.inr false)) (
        rq (i64 (i + (1:Int))) <|
        some (.inl (i + (1:Int)))))) (
    cond ((a0.2.1.length:Int) == (0:Int)) (
      some (.inr false)) (
      cond (a0.1 != (1:Int)) (
        cond (decide ((0:Int) < (a0.2.2.1.length:Int))) (
          some (.inr false)) (
          cond (a0.2.2.2.1 != (0:Int)) (
            some (.inr false)) (
            cond (a0.1 != (3:Int)) (
              cond (decide ((0:Int) < (a0.2.2.2.2.length:Int))) (
                some (.inr false)) (
                impl_ruleValid_j1 a0 ())) (
              impl_ruleValid_j1 a0 ())))) (
        cond (a0.1 != (3:Int)) (
          cond (decide ((0:Int) < (a0.2.2.2.2.length:Int))) (
            some (.inr false)) (
            impl_ruleValid_j1 a0 ())) (
          impl_ruleValid_j1 a0 ()))))

noncomputable def impl_ruleValid (a0 : Int × (List Int) × (List Int) × Int × (List (List Int))) (a1 : Int) : Option Bool :=
  loop (impl_ruleValid_l1 a0 a1) (0:Int)

/-- impl.ModelValid$1 -/
noncomputable def impl_ModelValid_1 (r_ : Int × (List Int) × (List Int) × Int × (List (List Int))) (o0 : (List Int) × (List (Int × (List Int) × (List Int) × Int × (List (List Int))))) : Option Bool :=
  (impl_ruleValid r_ (o0.1.length:Int)).bind fun r1_ =>
  some (!r1_)

/-- slices.IndexFunc[[]impl.Rule,impl.Rule] -/
noncomputable def slices_IndexFunc_impl_Rule__impl_ModelValid_1_l1 (s_ : List (Int × (List Int) × (List Int) × Int × (List (List Int)))) (o0 : (List Int) × (List (Int × (List Int) × (List Int) × Int × (List (List Int))))) : Int → Option (Int ⊕ Int) := fun i =>
  cond (decide (i < (s_.length:Int))) (
    rq (0 ≤ i ∧ i < s_.length) <|
    (impl_ModelValid_1 (s_.getD i.toNat (0, ([], ([], (0, []))))) o0).bind fun r1_ =>
    cond r1_ (
      some (.inr i)) (
      rq (i64 (i + (1:Int))) <|
      some (.inl (i + (1:Int))))) (
    some (.inr (-1:Int)))

noncomputable def slices_IndexFunc_impl_Rule__impl_ModelValid_1 (s_ : List (Int × (List Int) × (List Int) × Int × (List (List Int)))) (o0 : (List Int) × (List (Int × (List Int) × (List Int) × Int × (List (List Int))))) : Option Int :=
  loop (slices_IndexFunc_impl_Rule__impl_ModelValid_1_l1 s_ o0) (0:Int)

/-- slices.ContainsFunc[[]impl.Rule,impl.Rule] -/
noncomputable def slices_ContainsFunc_impl_Rule__impl_ModelValid_1 (s_ : List (Int × (List Int) × (List Int) × Int × (List (List Int)))) (o0 : (List Int) × (List (Int × (List Int) × (List Int) × Int × (List (List Int))))) : Option Bool :=
  (slices_IndexFunc_impl_Rule__impl_ModelValid_1 s_ o0).bind fun r1_ =>
  some (decide ((0:Int) ≤ r1_))

/-- impl.ModelValid -/
noncomputable def impl_ModelValid_l1 (m : (List Int) × (List (Int × (List Int) × (List Int) × Int × (List (List Int))))) : Int × Int → Option ((Int × Int) ⊕ Bool) := fun (count, i) =>
  cond (decide (i < (m.1.length:Int))) (
    rq (0 ≤ i ∧ i < m.1.length) <|
    (impl_within (m.1.getD i.toNat 0) (0:Int) (3:Int)).bind fun r2_ =>
    cond (!r2_) (
      some (.inr false)) (
      rq (i64 ((m.1.getD i.toNat 0) + (1:Int))) <|
      rq (i64 (count + ((m.1.getD i.toNat 0) + (1:Int)))) <|
      rq (i64 (i + (1:Int))) <|
      some (.inl ((count + ((m.1.getD i.toNat 0) + (1:Int))), (i + (1:Int)))))) (
    cond (decide (count ≤ (12:Int))) (
      (slices_ContainsFunc_impl_Rule__impl_ModelValid_1 m.2 m).bind fun r3_ =>
      some (.inr (!r3_))) (
      some (.inr false)))

noncomputable def impl_ModelValid (m : (List Int) × (List (Int × (List Int) × (List Int) × Int × (List (List Int))))) : Option Bool :=
  (impl_within (m.1.length:Int) (1:Int) (5:Int)).bind fun r1_ =>
  cond (!r1_) (
    some false) (
    cond (decide ((8:Int) < (m.2.length:Int))) (
      some false) (
      loop (impl_ModelValid_l1 m) ((0:Int), (0:Int))))

/-- impl.PermValid -/
noncomputable def impl_PermValid_l1 (m : (List Int) × (List (Int × (List Int) × (List Int) × Int × (List (List Int))))) (perm : List Int) : Int → Option (Int ⊕ Bool) := fun i =>
  cond (decide (i < (perm.length:Int))) (
    rq (0 ≤ i ∧ i < perm.length) <|
    rq (i64 ((perm.length:Int) - (1:Int))) <|
    (impl_within (perm.getD i.toNat 0) (0:Int) ((perm.length:Int) - (1:Int))).bind fun r4_ =>
    cond (!r4_) (
      some (.inr false)) (
      rq (0 ≤ (perm.getD i.toNat 0) ∧ (perm.getD i.toNat 0) < m.1.length) <|
      rq (0 ≤ i ∧ i < m.1.length) <|
      cond ((m.1.getD (perm.getD i.toNat 0).toNat 0) != (m.1.getD i.toNat 0)) (
        some (.inr false)) (
        rq (0 ≤ i ∧ i ≤ perm.length) <|
        (slices_Contains_int (perm.take i.toNat) (perm.getD i.toNat 0)).bind fun r5_ =>
        cond r5_ (
          some (.inr false)) (
          rq (i64 (i + (1:Int))) <|
          some (.inl (i + (1:Int))))))) (
    some (.inr true))

noncomputable def impl_PermValid (m : (List Int) × (List (Int × (List Int) × (List Int) × Int × (List (List Int))))) (perm : List Int) : Option Bool :=
  (impl_ModelValid m).bind fun r1_ =>
  cond (!r1_) (
    some false) (
    cond ((perm.length:Int) != (m.1.length:Int)) (
      some false) (
      loop (impl_PermValid_l1 m perm) (0:Int)))

/-- laws.eqIntS -/
noncomputable def laws_eqIntS_l1 (a : List Int) (b : List Int) : Int → Option (Int ⊕ Bool) := fun i =>
  cond (decide (i < (a.length:Int))) (
    rq (0 ≤ i ∧ i < a.length) <|
    rq (0 ≤ i ∧ i < b.length) <|
    cond ((a.getD i.toNat 0) != (b.getD i.toNat 0)) (
      some (.inr false)) (
      rq (i64 (i + (1:Int))) <|
      some (.inl (i + (1:Int))))) (
    some (.inr true))

noncomputable def laws_eqIntS (a : List Int) (b : List Int) : Option Bool :=
  cond ((a.length:Int) != (b.length:Int)) (
    some false) (
    loop (laws_eqIntS_l1 a b) (0:Int))

/-- laws.eqIntSS -/
noncomputable def laws_eqIntSS_l1 (a : List (List Int)) (b : List (List Int)) : Int → Option (Int ⊕ Bool) := fun i =>
  cond (decide (i < (a.length:Int))) (
    rq (0 ≤ i ∧ i < a.length) <|
    rq (0 ≤ i ∧ i < b.length) <|
    (laws_eqIntS (a.getD i.toNat []) (b.getD i.toNat [])).bind fun r2_ =>
    cond (!r2_) (
      some (.inr false)) (
      rq (i64 (i + (1:Int))) <|
      some (.inl (i + (1:Int))))) (
    some (.inr true))

noncomputable def laws_eqIntSS (a : List (List Int)) (b : List (List Int)) : Option Bool :=
  cond ((a.length:Int) != (b.length:Int)) (
    some false) (
    loop (laws_eqIntSS_l1 a b) (0:Int))

/-- laws.eqRule -/
noncomputable def laws_eqRule (a : Int × (List Int) × (List Int) × Int × (List (List Int))) (b : Int × (List Int) × (List Int) × Int × (List (List Int))) : Option Bool :=
  cond (a.1 != b.1) (
    some false) (
    (laws_eqIntS a.2.1 b.2.1).bind fun r1_ =>
    cond (!r1_) (
      some false) (
      (laws_eqIntS a.2.2.1 b.2.2.1).bind fun r2_ =>
      cond (!r2_) (
        some false) (
        cond (a.2.2.2.1 != b.2.2.2.1) (
          some false) (
          (laws_eqIntSS a.2.2.2.2 b.2.2.2.2).bind fun r3_ =>
          cond (!r3_) (
            some false) (
            some true)))))

/-- laws.eqRuleS -/
noncomputable def laws_eqRuleS_l1 (a : List (Int × (List Int) × (List Int) × Int × (List (List Int)))) (b : List (Int × (List Int) × (List Int) × Int × (List (List Int)))) : Int → Option (Int ⊕ Bool) := fun i =>
  cond (decide (i < (a.length:Int))) (
    rq (0 ≤ i ∧ i < a.length) <|
    rq (0 ≤ i ∧ i < b.length) <|
    (laws_eqRule (a.getD i.toNat (0, ([], ([], (0, []))))) (b.getD i.toNat (0, ([], ([], (0, [])))))).bind fun r2_ =>
    cond (!r2_) (
      some (.inr false)) (
      rq (i64 (i + (1:Int))) <|
      some (.inl (i + (1:Int))))) (
    some (.inr true))

noncomputable def laws_eqRuleS (a : List (Int × (List Int) × (List Int) × Int × (List (List Int)))) (b : List (Int × (List Int) × (List Int) × Int × (List (List Int)))) : Option Bool :=
  cond ((a.length:Int) != (b.length:Int)) (
    some false) (
    loop (laws_eqRuleS_l1 a b) (0:Int))

/-- laws.eqModel -/
noncomputable def laws_eqModel (a : (List Int) × (List (Int × (List Int) × (List Int) × Int × (List (List Int))))) (b : (List Int) × (List (Int × (List Int) × (List Int) × Int × (List (List Int))))) : Option Bool :=
  (laws_eqIntS a.1 b.1).bind fun r1_ =>
  cond (!r1_) (
    some false) (
    (laws_eqRuleS a.2 b.2).bind fun r2_ =>
    cond (!r2_) (
      some false) (
      some true))

/-- laws.FnExactPermValid -/
noncomputable def laws_FnExactPermValid_j1 (aPerm : List Int) (r6_ : (List Int)) : Unit → Option Bool := fun _ =>
  (laws_toIntS aPerm).bind fun r12_ =>
  (laws_eqIntS r6_ r12_).bind fun r13_ =>
  cond (!r13_) (
    some false) (
    some true)

noncomputable def laws_FnExactPermValid (aM : (List Int) × (List (Int × (List Int) × (List Int) × Int × (List (List Int))))) (aPerm : List Int) : Option Bool :=
  cond (decide ((1048576:Int) < (aPerm.length:Int))) (
    some true) (
    (laws_szModel aM (1048576:Int)).bind fun r1_ =>
    cond (decide (r1_ < (0:Int))) (
      some true) (
      (laws_toModel aM).bind fun r2_ =>
      (laws_toIntS aPerm).bind fun r3_ =>
      (spec_PermValid r2_ r3_).bind fun r4_ =>
      (laws_toModel aM).bind fun r5_ =>
      (laws_toIntS aPerm).bind fun r6_ =>
      (impl_PermValid r5_ r6_).bind fun r7_ =>
      cond (r7_ != r4_) (
        some false) (
        (laws_toModel aM).bind fun r10_ =>
        (laws_eqModel r5_ r10_).bind fun r11_ =>
        cond (!r11_) (
          some false) (
          laws_FnExactPermValid_j1 aPerm r6_ ()))))

/-- spec.l5Number -/
noncomputable def spec_l5Number_l1 (values : List Bool) : Int × Int → Option ((Int × Int) ⊕ Int) := fun (n, i) =>
  cond (decide (i < (values.length:Int))) (
    rq (i64 (n * (2:Int))) <|
    rq (0 ≤ i ∧ i < values.length) <|
    cond (values.getD i.toNat false) (
      rq (i64 ((n * (2:Int)) + (1:Int))) <|
      rq (i64 (i + (1:Int))) <|
      some (.inl (((n * (2:Int)) + (1:Int)), (i + (1:Int))))) (
      rq (i64 (i + (1:Int))) <|
      some (.inl ((n * (2:Int)), (i + (1:Int)))))) (
    some (.inr n))

noncomputable def spec_l5Number (values : List Bool) : Option Int :=
  loop (spec_l5Number_l1 values) ((0:Int), (0:Int))

/-- spec.l5Values -/
noncomputable def spec_l5Values_l1 : Int × Int × (List Bool) → Option ((Int × Int × (List Bool)) ⊕ (List Bool)) := fun (n1, i, out) =>
  cond (decide ((0:Int) ≤ i)) (
    rq (1 ≤ (2:Int) ∧ 0 ≤ n1) <|
    rq (0 ≤ i ∧ i < out.length) <|
    rq (1 ≤ (2:Int) ∧ 0 ≤ n1) <|
    rq (i64 (i - (1:Int))) <|
    some (.inl ((n1 / (2:Int)), (i - (1:Int)), (out.set i.toNat ((n1 % (2:Int)) == (1:Int)))))) (
    some (.inr out))

noncomputable def spec_l5Values (n : Int) : Option (List Bool) :=
  rq (0 ≤ (12:Int) ∧ (12:Int) ≤ bound ∧ (12:Int) = (12:Int)) <|
  loop (spec_l5Values_l1) (n, (11:Int), (List.replicate (12:Int).toNat false))

/-- spec.l3All -/
noncomputable def spec_l3All_l1 (list_ : List ((List (Int × Int)) × Int)) (values : List Bool) : Int → Option (Int ⊕ Bool) := fun i =>
  cond (decide (i < (list_.length:Int))) (
    rq (0 ≤ i ∧ i < list_.length) <|
    (spec_l1Eval (list_.getD i.toNat ([], 0)) values).bind fun r1_ =>
    cond (!r1_) (
      some (.inr false)) (
      rq (i64 (i + (1:Int))) <|
      some (.inl (i + (1:Int))))) (
    some (.inr true))

noncomputable def spec_l3All (list_ : List ((List (Int × Int)) × Int)) (values : List Bool) : Option Bool :=
  loop (spec_l3All_l1 list_ values) (0:Int)

/-- spec.NextSolution -/
noncomputable def spec_NextSolution_l1 (list_ : List ((List (Int × Int)) × Int)) : Int → Option (Int ⊕ (Bool × (List Bool))) := fun k_ =>
  cond (decide (k_ < (4096:Int))) (
    (spec_l5Values k_).bind fun r3_ =>
    (spec_l3All list_ r3_).bind fun r4_ =>
    cond r4_ (
      (spec_l5Values k_).bind fun r5_ =>
      some (.inr (true, r5_))) (
      rq (i64 (k_ + (1:Int))) <|
      some (.inl (k_ + (1:Int))))) (
    some (.inr (false, ([] : List Bool))))

noncomputable def spec_NextSolution (list_ : List ((List (Int × Int)) × Int)) (values : List Bool) : Option (Bool × (List Bool)) :=
  (spec_ProblemValid list_).bind fun r1_ =>
  cond (!r1_) (
    some (false, ([] : List Bool))) (
    cond ((values.length:Int) != (12:Int)) (
      some (false, ([] : List Bool))) (
      (spec_l5Number values).bind fun r2_ =>
      loop (spec_NextSolution_l1 list_) r2_))

/-- spec.l11Open -/
noncomputable def spec_l11Open (list_ : List ((List (Int × Int)) × Int)) : Option Bool :=
  rq (0 ≤ (12:Int) ∧ (12:Int) ≤ bound ∧ (12:Int) = (12:Int)) <|
  (spec_NextSolution list_ (List.replicate (12:Int).toNat false)).bind fun r1_ =>
  some r1_.1

/-- spec.l11Count -/
noncomputable def spec_l11Count_l1 (n : Int) : Int × (List Int) → Option ((Int × (List Int)) ⊕ (List Int)) := fun (i, out) =>
  cond (decide (i < n)) (
    rq (out.length + [i].length ≤ bound) <|
    rq (i64 (i + (1:Int))) <|
    some (.inl ((i + (1:Int)), (out ++ [i])))) (
    some (.inr out))

noncomputable def spec_l11Count (n : Int) : Option (List Int) :=
  loop (spec_l11Count_l1 n) ((0:Int), ([] : List Int))

/-- spec.l11Without -/
noncomputable def spec_l11Without (list_ : List Int) (at_ : Int) : Option (List Int) :=
  rq (i64 (at_ + (1:Int))) <|
  rq (0 ≤ at_ ∧ at_ ≤ list_.length) <|
  rq (([] : List Int).length + (list_.take at_.toNat).length ≤ bound) <|
  rq (0 ≤ (at_ + (1:Int)) ∧ (at_ + (1:Int)) ≤ list_.length) <|
  rq ((([] : List Int) ++ (list_.take at_.toNat)).length + (list_.drop (at_ + (1:Int)).toNat).length ≤ bound) <|
  some ((([] : List Int) ++ (list_.take at_.toNat)) ++ (list_.drop (at_ + (1:Int)).toNat))

/-- spec.CoreMinimal -/
noncomputable def spec_CoreMinimal_l1 (list_ : List ((List (Int × Int)) × Int)) (r3_ : (List Int)) : Int → Option (Int ⊕ Bool) := fun k_ =>
  cond (decide (k_ < (r3_.length:Int))) (
    (spec_l11Without r3_ k_).bind fun r4_ =>
    (spec_l11Sub list_ r4_).bind fun r5_ =>
    (spec_l11Open r5_).bind fun r6_ =>
    cond (!r6_) (
      some (.inr false)) (
      rq (i64 (k_ + (1:Int))) <|
      some (.inl (k_ + (1:Int))))) (
    some (.inr true))

noncomputable def spec_CoreMinimal (list_ : List ((List (Int × Int)) × Int)) : Option Bool :=
  (spec_ProblemValid list_).bind fun r1_ =>
  cond (!r1_) (
    some false) (
    (spec_l11Open list_).bind fun r2_ =>
    cond r2_ (
      some false) (
      (spec_l11Count (list_.length:Int)).bind fun r3_ =>
      loop (spec_CoreMinimal_l1 list_ r3_) (0:Int)))

/-- impl.solvable -/
noncomputable def impl_solvable_l1 (list_ : List ((List (Int × Int)) × Int)) : Int → Option (Int ⊕ Bool) := fun i =>
  cond (decide (i < (4096:Int))) (
    (impl_numbered i).bind fun r1_ =>
    (impl_satisfies list_ r1_).bind fun r2_ =>
    cond r2_ (
      some (.inr true)) (
      rq (i64 (i + (1:Int))) <|
      some (.inl (i + (1:Int))))) (
    some (.inr false))

noncomputable def impl_solvable (list_ : List ((List (Int × Int)) × Int)) : Option Bool :=
  loop (impl_solvable_l1 list_) (0:Int)

/-- impl.indices -/
noncomputable def impl_indices_l1 (count : Int) : Int × (List Int) → Option ((Int × (List Int)) ⊕ (List Int)) := fun (i, out) =>
  cond (decide (i < count)) (
    rq (out.length + [i].length ≤ bound) <|
    rq (i64 (i + (1:Int))) <|
    some (.inl ((i + (1:Int)), (out ++ [i])))) (
    some (.inr out))

noncomputable def impl_indices (count : Int) : Option (List Int) :=
  loop (impl_indices_l1 count) ((0:Int), ([] : List Int))

/-- slices.Clone[[]int,int] -/
noncomputable def slices_Clone_int (s_ : List Int) : Option (List Int) :=
  nt (s_ = []) (
    some ([] : List Int)) (
    rq (([] : List Int).length + s_.length ≤ bound) <|
    some (([] : List Int) ++ s_))

/-- impl.without$1 -/
noncomputable def impl_without_1 (n : Int) (o0 : Int) : Option Bool :=
  some (n == o0)

/-- slices.IndexFunc[[]int,int] -/
noncomputable def slices_IndexFunc_int__impl_without_1_l1 (s_ : List Int) (o0 : Int) : Int → Option (Int ⊕ Int) := fun i =>
  cond (decide (i < (s_.length:Int))) (
    rq (0 ≤ i ∧ i < s_.length) <|
    (impl_without_1 (s_.getD i.toNat 0) o0).bind fun r1_ =>
    cond r1_ (
      some (.inr i)) (
      rq (i64 (i + (1:Int))) <|
      some (.inl (i + (1:Int))))) (
    some (.inr (-1:Int)))

noncomputable def slices_IndexFunc_int__impl_without_1 (s_ : List Int) (o0 : Int) : Option Int :=
  loop (slices_IndexFunc_int__impl_without_1_l1 s_ o0) (0:Int)

/-- slices.DeleteFunc[[]int,int] -/
noncomputable def slices_DeleteFunc_int__impl_without_1_j1 : Int × (List Int) → Option (List Int) := fun (i1, s_2) =>
  rq (0 ≤ i1 ∧ i1 ≤ s_2.length) <|
  rq (0 ≤ i1 ∧ i1 ≤ (s_2.take i1.toNat ++ List.replicate (s_2.length - i1.toNat) (0:Int)).length) <|
  some ((s_2.take i1.toNat ++ List.replicate (s_2.length - i1.toNat) (0:Int)).take i1.toNat)

noncomputable def slices_DeleteFunc_int__impl_without_1_l1 (o0 : Int) : Int × Int × (List Int) → Option ((Int × Int × (List Int)) ⊕ (List Int)) := fun (i, j, s_1) =>
  cond (decide (j < (s_1.length:Int))) (
    rq (0 ≤ j ∧ j < s_1.length) <|
    (impl_without_1 (s_1.getD j.toNat 0) o0).bind fun r3_ =>
    cond (!r3_) (
      rq (0 ≤ i ∧ i < s_1.length) <|
      rq (i64 (i + (1:Int))) <|
      rq (i64 (j + (1:Int))) <|
      some (.inl ((i + (1:Int)), (j + (1:Int)), (s_1.set i.toNat (s_1.getD j.toNat 0))))) (
      rq (i64 (j + (1:Int))) <|
      some (.inl (i, (j + (1:Int)), s_1)))) (
    up (slices_DeleteFunc_int__impl_without_1_j1 (i, s_1)))

noncomputable def slices_DeleteFunc_int__impl_without_1 (o0 : Int) (s_ : List Int) : Option (List Int) :=
  (slices_IndexFunc_int__impl_without_1 s_ o0).bind fun r1_ =>
  cond (r1_ == (-1:Int)) (
    some s_) (
    rq (i64 (r1_ + (1:Int))) <|
    loop (slices_DeleteFunc_int__impl_without_1_l1 o0) (r1_, (r1_ + (1:Int)), s_))

/-- impl.without -/
noncomputable def impl_without (list_ : List Int) (k_ : Int) : Option (List Int) :=
  (slices_Clone_int list_).bind fun r1_ =>
  (slices_DeleteFunc_int__impl_without_1 k_ r1_).bind fun r2_ =>
  some r2_

/-- impl.CoreMinimal$1 -/
noncomputable def impl_CoreMinimal_1__rRs (k_ : Int) (o0 : List ((List (Int × Int)) × Int)) (o2 : List Int) : Option Bool :=
  (impl_without o2 k_).bind fun r4_ =>
  (impl_partOf o0 r4_).bind fun r5_ =>
  (impl_solvable r5_).bind fun r6_ =>
  some (!r6_)

/-- slices.IndexFunc[[]int,int] -/
noncomputable def slices_IndexFunc_int__impl_CoreMinimal_1__rRs_l1 (o0 : List ((List (Int × Int)) × Int)) (s_ : List Int) : Int → Option (Int ⊕ Int) := fun i =>
  cond (decide (i < (s_.length:Int))) (
    rq (0 ≤ i ∧ i < s_.length) <|
    (impl_CoreMinimal_1__rRs (s_.getD i.toNat 0) o0 s_).bind fun r1_ =>
    cond r1_ (
      some (.inr i)) (
      rq (i64 (i + (1:Int))) <|
      some (.inl (i + (1:Int))))) (
    some (.inr (-1:Int)))

noncomputable def slices_IndexFunc_int__impl_CoreMinimal_1__rRs (o0 : List ((List (Int × Int)) × Int)) (s_ : List Int) : Option Int :=
  loop (slices_IndexFunc_int__impl_CoreMinimal_1__rRs_l1 o0 s_) (0:Int)

/-- slices.ContainsFunc[[]int,int] -/
noncomputable def slices_ContainsFunc_int__impl_CoreMinimal_1__rRs (o0 : List ((List (Int × Int)) × Int)) (s_ : List Int) : Option Bool :=
  (slices_IndexFunc_int__impl_CoreMinimal_1__rRs o0 s_).bind fun r1_ =>
  some (decide ((0:Int) ≤ r1_))

/-- impl.CoreMinimal -/
noncomputable def impl_CoreMinimal (list_ : List ((List (Int × Int)) × Int)) : Option Bool :=
  (impl_ProblemValid list_).bind fun r1_ =>
  cond (!r1_) (
    some false) (
    (impl_solvable list_).bind fun r2_ =>
    cond r2_ (
      some false) (
      (impl_indices (list_.length:Int)).bind fun r3_ =>
      (slices_ContainsFunc_int__impl_CoreMinimal_1__rRs list_ r3_).bind fun r4_ =>
      some (!r4_)))

/-- laws.FnExactCoreMinimal -/
noncomputable def laws_FnExactCoreMinimal (aList : List ((List (Int × Int)) × Int)) : Option Bool :=
  (laws_szConstraintS aList (1048576:Int)).bind fun r1_ =>
  cond (decide (r1_ < (0:Int))) (
    some true) (
    (laws_toConstraintS aList).bind fun r2_ =>
    (spec_CoreMinimal r2_).bind fun r3_ =>
    (laws_toConstraintS aList).bind fun r4_ =>
    (impl_CoreMinimal r4_).bind fun r5_ =>
    cond (r5_ != r3_) (
      some false) (
      (laws_toConstraintS aList).bind fun r6_ =>
      (laws_eqConstraintS r4_ r6_).bind fun r7_ =>
      cond (!r7_) (
        some false) (
        some true)))

/-- spec.l5Hard -/
noncomputable def spec_l5Hard_l1 : Int × ((List Int) × Int) × (List ((List (Int × Int)) × Int)) → Option ((Int × ((List Int) × Int) × (List ((List (Int × Int)) × Int))) ⊕ (((List Int) × Int) × (List ((List (Int × Int)) × Int)))) := fun (i, r_1, list_) =>
  cond (decide ((0:Int) < i)) (
    (spec_l1Draw (4:Int) r_1).bind fun r6_ =>
    (spec_l1Total (r6_.2.2, r6_.2.1)).bind fun r7_ =>
    rq (1 ≤ (2:Int) ∧ 0 ≤ r7_) <|
    rq (i64 ((r7_ / (2:Int)) + (1:Int))) <|
    (spec_l17Rd_pick ((r7_ / (2:Int)) + (1:Int)) r6_.1).bind fun r8_ =>
    rq (i64 (r7_ - r8_.1)) <|
    rq (list_.length + [(r6_.2.2, (r7_ - r8_.1))].length ≤ bound) <|
    rq (i64 (i - (1:Int))) <|
    some (.inl ((i - (1:Int)), r8_.2, (list_ ++ [(r6_.2.2, (r7_ - r8_.1))])))) (
    some (.inr (r_1, list_)))

noncomputable def spec_l5Hard (r_ : (List Int) × Int) : Option (((List Int) × Int) × (List ((List (Int × Int)) × Int))) :=
  (spec_l3Problem r_).bind fun r1_ =>
  (spec_l17Rd_num [(2:Int), (4:Int), (3:Int), (6:Int), (0:Int)] r1_.1).bind fun r2_ =>
  loop (spec_l5Hard_l1) (r2_.1, r2_.2, r1_.2)

/-- spec.l12Draw -/
noncomputable def spec_l12Draw_j1 : ((List Int) × Int) × (List Int) → Option (((List Int) × Int) × (List Int)) := fun (r_2, out1) =>
  (spec_l17Rd_pick (30:Int) r_2).bind fun r3_ =>
  cond (r3_.1 == (0:Int)) (
    (spec_l17Rd_num [(1:Int), (13:Int), (0:Int), (-2:Int)] r3_.2).bind fun r4_ =>
    rq (out1.length + [r4_.1].length ≤ bound) <|
    some (r4_.2, (out1 ++ [r4_.1]))) (
    cond (r3_.1 == (1:Int)) (
      some (r3_.2, [(1:Int), (2:Int), (3:Int), (4:Int), (5:Int)])) (
      cond (r3_.1 == (2:Int)) (
        some (r3_.2, [(2:Int), (4:Int), (6:Int), (12:Int)])) (
        some (r3_.2, out1))))

noncomputable def spec_l12Draw_l1 : Int × ((List Int) × Int) × (List Int) → Option ((Int × ((List Int) × Int) × (List Int)) ⊕ (((List Int) × Int) × (List Int))) := fun (v, r_1, out) =>
  cond (decide (v ≤ (5:Int))) (
    (spec_l17Rd_pick (2:Int) r_1).bind fun r2_ =>
    cond (r2_.1 == (0:Int)) (
      cond (decide ((out.length:Int) < (3:Int))) (
        rq (out.length + [v].length ≤ bound) <|
        rq (i64 (v + (1:Int))) <|
        some (.inl ((v + (1:Int)), r2_.2, (out ++ [v])))) (
        rq (i64 (v + (1:Int))) <|
        some (.inl ((v + (1:Int)), r2_.2, out)))) (
      rq (i64 (v + (1:Int))) <|
      some (.inl ((v + (1:Int)), r2_.2, out)))) (
    up (spec_l12Draw_j1 (r_1, out)))

noncomputable def spec_l12Draw (r_ : (List Int) × Int) : Option (((List Int) × Int) × (List Int)) :=
  loop (spec_l12Draw_l1) ((1:Int), r_, ([] : List Int))

/-- spec.l12Signed -/
noncomputable def spec_l12Signed_l1 : Int × ((List Int) × Int) × (List Int) → Option ((Int × ((List Int) × Int) × (List Int)) ⊕ (((List Int) × Int) × (List Int))) := fun (i, r_1, out) =>
  cond (decide (i < (out.length:Int))) (
    (spec_l17Rd_pick (2:Int) r_1).bind fun r3_ =>
    cond (r3_.1 == (0:Int)) (
      rq (0 ≤ i ∧ i < out.length) <|
      rq (i64 (0 - (out.getD i.toNat 0))) <|
      rq (0 ≤ i ∧ i < out.length) <|
      rq (i64 (i + (1:Int))) <|
      some (.inl ((i + (1:Int)), r3_.2, (out.set i.toNat (0 - (out.getD i.toNat 0)))))) (
      rq (i64 (i + (1:Int))) <|
      some (.inl ((i + (1:Int)), r3_.2, out)))) (
    some (.inr (r_1, out)))

noncomputable def spec_l12Signed (r_ : (List Int) × Int) : Option (((List Int) × Int) × (List Int)) :=
  (spec_l12Draw r_).bind fun r1_ =>
  loop (spec_l12Signed_l1) ((0:Int), r1_.1, r1_.2)

/-- spec.DrawCubeProblem -/
noncomputable def spec_DrawCubeProblem (code : List Int) : Option ((List ((List (Int × Int)) × Int)) × (List Int)) :=
  (spec_l17Open code).bind fun r1_ =>
  (spec_l5Hard r1_).bind fun r2_ =>
  (spec_l3Mutate r2_.2 r2_.1).bind fun r3_ =>
  (spec_l12Signed r3_.1).bind fun r4_ =>
  some (r3_.2, r4_.2)

/-- spec.DrawCubeHolds -/
noncomputable def spec_DrawCubeHolds_j1 (r2_ : ((List Int) × Int) × (List Int)) : (List Bool) → Option ((List Int) × (List Bool)) := fun values1 =>
  some (r2_.2, values1)

noncomputable def spec_DrawCubeHolds_l1 (r2_ : ((List Int) × Int) × (List Int)) : Int × ((List Int) × Int) × (List Bool) → Option ((Int × ((List Int) × Int) × (List Bool)) ⊕ ((List Int) × (List Bool))) := fun (i, r_, values) =>
  cond (decide (i < (r2_.2.length:Int))) (
    (spec_l17Rd_pick (6:Int) r_).bind fun r6_ =>
    cond (decide ((0:Int) < r6_.1)) (
      rq (0 ≤ i ∧ i < r2_.2.length) <|
      (spec_l1Abs (r2_.2.getD i.toNat 0)).bind fun r7_ =>
      cond (decide ((1:Int) ≤ r7_)) (
        cond (decide (r7_ ≤ (values.length:Int))) (
          rq (i64 (r7_ - (1:Int))) <|
          rq (0 ≤ i ∧ i < r2_.2.length) <|
          rq (0 ≤ (r7_ - (1:Int)) ∧ (r7_ - (1:Int)) < values.length) <|
          rq (i64 (i + (1:Int))) <|
          some (.inl ((i + (1:Int)), r6_.2, (values.set (r7_ - (1:Int)).toNat (decide ((0:Int) < (r2_.2.getD i.toNat 0))))))) (
          rq (i64 (i + (1:Int))) <|
          some (.inl ((i + (1:Int)), r6_.2, values)))) (
        rq (i64 (i + (1:Int))) <|
        some (.inl ((i + (1:Int)), r6_.2, values)))) (
      up (spec_DrawCubeHolds_j1 r2_ values))) (
    up (spec_DrawCubeHolds_j1 r2_ values))

noncomputable def spec_DrawCubeHolds (code : List Int) : Option ((List Int) × (List Bool)) :=
  (spec_l17Open code).bind fun r1_ =>
  (spec_l12Signed r1_).bind fun r2_ =>
  (spec_l1Values r2_.1).bind fun r3_ =>
  loop (spec_DrawCubeHolds_l1 r2_) ((0:Int), r3_.1, r3_.2)

/-- impl.isCube -/
noncomputable def impl_isCube_l1 (cube : List Int) : Int → Option (Int ⊕ Bool) := fun i =>
  cond (decide (i < (cube.length:Int))) (
    rq (0 ≤ i ∧ i < cube.length) <|
    (impl_isLiteral (cube.getD i.toNat 0)).bind fun r1_ =>
    cond (!r1_) (
      some (.inr false)) (
      cond (decide ((0:Int) < i)) (
        rq (i64 (i - (1:Int))) <|
        rq (0 ≤ (i - (1:Int)) ∧ (i - (1:Int)) < cube.length) <|
        (impl_variableOf (cube.getD (i - (1:Int)).toNat 0)).bind fun r2_ =>
        (impl_variableOf (cube.getD i.toNat 0)).bind fun r3_ =>
        cond (decide (r3_ ≤ r2_)) (
          some (.inr false)) (
          rq (i64 (i + (1:Int))) <|
          some (.inl (i + (1:Int))))) (
        rq (i64 (i + (1:Int))) <|
        some (.inl (i + (1:Int)))))) (
    some (.inr (decide ((cube.length:Int) ≤ (4:Int)))))

noncomputable def impl_isCube (cube : List Int) : Option Bool :=
  loop (impl_isCube_l1 cube) (0:Int)

/-- impl.CubeProblem -/
noncomputable def impl_CubeProblem_l1 (cube : List Int) : Int × (List ((List (Int × Int)) × Int)) → Option ((Int × (List ((List (Int × Int)) × Int))) ⊕ (Bool × (List ((List (Int × Int)) × Int)))) := fun (i, out) =>
  cond (decide (i < (cube.length:Int))) (
    rq (0 ≤ i ∧ i < cube.length) <|
    rq (out.length + [([((1:Int), (cube.getD i.toNat 0))], (1:Int))].length ≤ bound) <|
    rq (i64 (i + (1:Int))) <|
    some (.inl ((i + (1:Int)), (out ++ [([((1:Int), (cube.getD i.toNat 0))], (1:Int))])))) (
    some (.inr (true, out)))

noncomputable def impl_CubeProblem (list_ : List ((List (Int × Int)) × Int)) (cube : List Int) : Option (Bool × (List ((List (Int × Int)) × Int))) :=
  (impl_ProblemValid list_).bind fun r1_ =>
  cond (!r1_) (
    some (false, ([] : List ((List (Int × Int)) × Int)))) (
    (impl_isCube cube).bind fun r2_ =>
    cond (!r2_) (
      some (false, ([] : List ((List (Int × Int)) × Int)))) (
      rq (i64 ((list_.length:Int) + (cube.length:Int))) <|
      cond (decide ((400:Int) < ((list_.length:Int) + (cube.length:Int)))) (
        some (false, ([] : List ((List (Int × Int)) × Int)))) (
        (impl_ownAll list_).bind fun r3_ =>
        loop (impl_CubeProblem_l1 cube) ((0:Int), r3_))))

/-- spec.l12Vars -/
noncomputable def spec_l12Vars_l1 (vars : List Int) : Int → Option (Int ⊕ Bool) := fun i =>
  cond (decide (i < (vars.length:Int))) (
    rq (0 ≤ i ∧ i < vars.length) <|
    cond (decide ((vars.getD i.toNat 0) < (1:Int))) (
      some (.inr false)) (
      rq (0 ≤ i ∧ i < vars.length) <|
      cond (decide ((12:Int) < (vars.getD i.toNat 0))) (
        some (.inr false)) (
        cond (decide ((0:Int) < i)) (
          rq (i64 (i - (1:Int))) <|
          rq (0 ≤ (i - (1:Int)) ∧ (i - (1:Int)) < vars.length) <|
          rq (0 ≤ i ∧ i < vars.length) <|
          cond (decide ((vars.getD i.toNat 0) ≤ (vars.getD (i - (1:Int)).toNat 0))) (
            some (.inr false)) (
            rq (i64 (i + (1:Int))) <|
            some (.inl (i + (1:Int))))) (
          rq (i64 (i + (1:Int))) <|
          some (.inl (i + (1:Int))))))) (
    some (.inr (decide ((vars.length:Int) ≤ (4:Int)))))

noncomputable def spec_l12Vars (vars : List Int) : Option Bool :=
  loop (spec_l12Vars_l1 vars) (0:Int)

/-- spec.l12Cube -/
noncomputable def spec_l12Cube_j1 : (List Int) → Option Bool := fun vars1 =>
  (spec_l12Vars vars1).bind fun r5_ =>
  some r5_

noncomputable def spec_l12Cube_l1 (cube : List Int) : Int × (List Int) → Option ((Int × (List Int)) ⊕ Bool) := fun (i, vars) =>
  cond (decide (i < (cube.length:Int))) (
    rq (0 ≤ i ∧ i < cube.length) <|
    (spec_l1Lit (cube.getD i.toNat 0)).bind fun r3_ =>
    cond (!r3_) (
      some (.inr false)) (
      rq (0 ≤ i ∧ i < cube.length) <|
      (spec_l1Abs (cube.getD i.toNat 0)).bind fun r4_ =>
      rq (vars.length + [r4_].length ≤ bound) <|
      rq (i64 (i + (1:Int))) <|
      some (.inl ((i + (1:Int)), (vars ++ [r4_]))))) (
    up (spec_l12Cube_j1 vars))

noncomputable def spec_l12Cube (cube : List Int) : Option Bool :=
  loop (spec_l12Cube_l1 cube) ((0:Int), ([] : List Int))

/-- spec.l12Under -/
noncomputable def spec_l12Under_l1 (cube : List Int) : Int × (List ((List (Int × Int)) × Int)) → Option ((Int × (List ((List (Int × Int)) × Int))) ⊕ ((List ((List (Int × Int)) × Int)))) := fun (i1, out2) =>
  cond (decide (i1 < (cube.length:Int))) (
    rq (0 ≤ i1 ∧ i1 < cube.length) <|
    rq (out2.length + [([((1:Int), (cube.getD i1.toNat 0))], (1:Int))].length ≤ bound) <|
    rq (i64 (i1 + (1:Int))) <|
    some (.inl ((i1 + (1:Int)), (out2 ++ [([((1:Int), (cube.getD i1.toNat 0))], (1:Int))])))) (
    some (.inr out2))

noncomputable def spec_l12Under_j1 (cube : List Int) : (List ((List (Int × Int)) × Int)) → Option ((List ((List (Int × Int)) × Int))) := fun out1 =>
  loop (spec_l12Under_l1 cube) ((0:Int), out1)

noncomputable def spec_l12Under_l2 (list_ : List ((List (Int × Int)) × Int)) (cube : List Int) : Int × (List ((List (Int × Int)) × Int)) → Option ((Int × (List ((List (Int × Int)) × Int))) ⊕ ((List ((List (Int × Int)) × Int)))) := fun (i, out) =>
  cond (decide (i < (list_.length:Int))) (
    rq (0 ≤ i ∧ i < list_.length) <|
    (spec_l1Copy (list_.getD i.toNat ([], 0))).bind fun r2_ =>
    rq (out.length + [(r2_.2, r2_.1)].length ≤ bound) <|
    rq (i64 (i + (1:Int))) <|
    some (.inl ((i + (1:Int)), (out ++ [(r2_.2, r2_.1)])))) (
    up (spec_l12Under_j1 cube out))

noncomputable def spec_l12Under (list_ : List ((List (Int × Int)) × Int)) (cube : List Int) : Option ((List ((List (Int × Int)) × Int))) :=
  loop (spec_l12Under_l2 list_ cube) ((0:Int), ([] : List ((List (Int × Int)) × Int)))

/-- spec.CubeProblem -/
noncomputable def spec_CubeProblem (list_ : List ((List (Int × Int)) × Int)) (cube : List Int) : Option (Bool × (List ((List (Int × Int)) × Int))) :=
  (spec_ProblemValid list_).bind fun r1_ =>
  cond (!r1_) (
    some (false, ([] : List ((List (Int × Int)) × Int)))) (
    (spec_l12Cube cube).bind fun r2_ =>
    cond (!r2_) (
      some (false, ([] : List ((List (Int × Int)) × Int)))) (
      rq (i64 ((list_.length:Int) + (cube.length:Int))) <|
      cond (decide ((400:Int) < ((list_.length:Int) + (cube.length:Int)))) (
        some (false, ([] : List ((List (Int × Int)) × Int)))) (
        (spec_l12Under list_ cube).bind fun r3_ =>
        some (true, r3_))))

/-- impl.SatisfiesAll -/
noncomputable def impl_SatisfiesAll (list_ : List ((List (Int × Int)) × Int)) (values : List Bool) : Option Bool :=
  (impl_ProblemValid list_).bind fun r1_ =>
  cond r1_ (
    cond ((values.length:Int) == (12:Int)) (
      (impl_satisfies list_ values).bind fun r2_ =>
      some r2_) (
      some false)) (
    some false)

/-- impl.CubeHolds$1 -/
noncomputable def impl_CubeHolds_1 (l : Int) (o0 : List Bool) : Option Bool :=
  (impl_holds l o0).bind fun r1_ =>
  some (!r1_)

/-- slices.IndexFunc[[]int,int] -/
noncomputable def slices_IndexFunc_int__impl_CubeHolds_1_l1 (s_ : List Int) (o0 : List Bool) : Int → Option (Int ⊕ Int) := fun i =>
  cond (decide (i < (s_.length:Int))) (
    rq (0 ≤ i ∧ i < s_.length) <|
    (impl_CubeHolds_1 (s_.getD i.toNat 0) o0).bind fun r1_ =>
    cond r1_ (
      some (.inr i)) (
      rq (i64 (i + (1:Int))) <|
      some (.inl (i + (1:Int))))) (
    some (.inr (-1:Int)))

noncomputable def slices_IndexFunc_int__impl_CubeHolds_1 (s_ : List Int) (o0 : List Bool) : Option Int :=
  loop (slices_IndexFunc_int__impl_CubeHolds_1_l1 s_ o0) (0:Int)

/-- slices.ContainsFunc[[]int,int] -/
noncomputable def slices_ContainsFunc_int__impl_CubeHolds_1 (s_ : List Int) (o0 : List Bool) : Option Bool :=
  (slices_IndexFunc_int__impl_CubeHolds_1 s_ o0).bind fun r1_ =>
  some (decide ((0:Int) ≤ r1_))

/-- impl.CubeHolds -/
noncomputable def impl_CubeHolds (cube : List Int) (values : List Bool) : Option Bool :=
  (impl_isCube cube).bind fun r1_ =>
  cond r1_ (
    cond ((values.length:Int) == (12:Int)) (
      (slices_ContainsFunc_int__impl_CubeHolds_1 cube values).bind fun r2_ =>
      some (!r2_)) (
      some false)) (
    some false)

/-- laws.FnCubeProblem -/
noncomputable def laws_FnCubeProblem (a0 : List Int) (a1 : List Int) : Option Bool :=
  cond (decide ((1048576:Int) < (a0.length:Int))) (
    some true) (
    cond (decide ((1048576:Int) < (a1.length:Int))) (
      some true) (
      (spec_DrawCubeProblem a0).bind fun r1_ =>
      (spec_DrawCubeHolds a1).bind fun r2_ =>
      (impl_CubeProblem r1_.1 r1_.2).bind fun r3_ =>
      (spec_CubeProblem r1_.1 r1_.2).bind fun r4_ =>
      cond (r3_.1 != r4_.1) (
        cond (r3_.1 == r4_.1) (
          (laws_cpProblem r3_.2 r4_.2).bind fun r9_ =>
          some r9_) (
          some false)) (
        (laws_cpProblem r3_.2 r4_.2).bind fun r5_ =>
        cond (!r5_) (
          cond (r3_.1 == r4_.1) (
            (laws_cpProblem r3_.2 r4_.2).bind fun r8_ =>
            some r8_) (
            some false)) (
          cond (!r3_.1) (
            cond (r3_.1 == r4_.1) (
              (laws_cpProblem r3_.2 r4_.2).bind fun r7_ =>
              some r7_) (
              some false)) (
            cond ((r2_.2.length:Int) != (12:Int)) (
              cond (r3_.1 == r4_.1) (
                (laws_cpProblem r3_.2 r4_.2).bind fun r6_ =>
                some r6_) (
                some false)) (
              (impl_SatisfiesAll r3_.2 r2_.2).bind fun r10_ =>
              (impl_SatisfiesAll r1_.1 r2_.2).bind fun r11_ =>
              cond r11_ (
                (impl_CubeHolds r1_.2 r2_.2).bind fun r12_ =>
                some (r10_ == r12_)) (
                some (r10_ == false))))))))

/-- spec.MaximalPart -/
noncomputable def spec_MaximalPart_l1 (list_ : List ((List (Int × Int)) × Int)) : Int × (List Int) → Option ((Int × (List Int)) ⊕ (Bool × (List Int))) := fun (i, keep) =>
  cond (decide (i < (list_.length:Int))) (
    rq (([] : List Int).length + keep.length ≤ bound) <|
    rq ((([] : List Int) ++ keep).length + [i].length ≤ bound) <|
    (spec_l11Sub list_ ((([] : List Int) ++ keep) ++ [i])).bind fun r4_ =>
    (spec_l11Open r4_).bind fun r5_ =>
    cond r5_ (
      rq (i64 (i + (1:Int))) <|
      some (.inl ((i + (1:Int)), ((([] : List Int) ++ keep) ++ [i])))) (
      rq (i64 (i + (1:Int))) <|
      some (.inl ((i + (1:Int)), keep)))) (
    some (.inr (true, keep)))

noncomputable def spec_MaximalPart (list_ : List ((List (Int × Int)) × Int)) : Option (Bool × (List Int)) :=
  (spec_ProblemValid list_).bind fun r1_ =>
  cond (!r1_) (
    some (false, ([] : List Int))) (
    loop (spec_MaximalPart_l1 list_) ((0:Int), ([] : List Int)))

/-- impl.partOf -/
noncomputable def impl_partOf__s_l1 (list_ : List ((List (Int × Int)) × Int)) (keep : List Int) : Int × (List ((List (Int × Int)) × Int)) → Option ((Int × (List ((List (Int × Int)) × Int))) ⊕ ((List ((List (Int × Int)) × Int)))) := fun (i, out) =>
  cond (decide (i < (keep.length:Int))) (
    rq (0 ≤ i ∧ i < keep.length) <|
    rq (0 ≤ (keep.getD i.toNat 0) ∧ (keep.getD i.toNat 0) < list_.length) <|
    rq (out.length + [(list_.getD (keep.getD i.toNat 0).toNat ([], 0))].length ≤ bound) <|
    rq (i64 (i + (1:Int))) <|
    some (.inl ((i + (1:Int)), (out ++ [(list_.getD (keep.getD i.toNat 0).toNat ([], 0))])))) (
    some (.inr out))

noncomputable def impl_partOf__s (list_ : List ((List (Int × Int)) × Int)) (keep : List Int) : Option ((List ((List (Int × Int)) × Int))) :=
  loop (impl_partOf__s_l1 list_ keep) ((0:Int), ([] : List ((List (Int × Int)) × Int)))

/-- impl.MaximalPart -/
noncomputable def impl_MaximalPart_l1 (list_ : List ((List (Int × Int)) × Int)) : Int × (List Int) → Option ((Int × (List Int)) ⊕ (Bool × (List Int))) := fun (i, out) =>
  cond (decide (i < (list_.length:Int))) (
    (slices_Clone_int out).bind fun r5_ =>
    rq (r5_.length + [i].length ≤ bound) <|
    (impl_partOf__s list_ (r5_ ++ [i])).bind fun r6_ =>
    (impl_solvable r6_).bind fun r7_ =>
    cond r7_ (
      rq (i64 (i + (1:Int))) <|
      some (.inl ((i + (1:Int)), (r5_ ++ [i])))) (
      rq (i64 (i + (1:Int))) <|
      some (.inl ((i + (1:Int)), out)))) (
    some (.inr (true, out)))

noncomputable def impl_MaximalPart (list_ : List ((List (Int × Int)) × Int)) : Option (Bool × (List Int)) :=
  (impl_ProblemValid list_).bind fun r1_ =>
  cond (!r1_) (
    some (false, ([] : List Int))) (
    loop (impl_MaximalPart_l1 list_) ((0:Int), ([] : List Int)))

/-- laws.markIntS -/
noncomputable def laws_markIntS_l1 : Int × Int × (List Int) → Option ((Int × Int × (List Int)) ⊕ (Int × (List Int))) := fun (k_1, i, a1) =>
  cond (decide (i < (a1.length:Int))) (
    rq (0 ≤ i ∧ i < a1.length) <|
    rq (i64 (k_1 + (1:Int))) <|
    rq (i64 (i + (1:Int))) <|
    some (.inl ((k_1 + (1:Int)), (i + (1:Int)), (a1.set i.toNat k_1)))) (
    some (.inr (k_1, a1)))

noncomputable def laws_markIntS (k_ : Int) (a : List Int) : Option (Int × (List Int)) :=
  loop (laws_markIntS_l1) (k_, (0:Int), a)

/-- laws.heldIntS -/
noncomputable def laws_heldIntS_l1 (a : List Int) : Int × Int → Option ((Int × Int) ⊕ Int) := fun (k_1, i) =>
  cond (decide (i < (a.length:Int))) (
    rq (0 ≤ i ∧ i < a.length) <|
    cond ((a.getD i.toNat 0) != k_1) (
      some (.inr (-1:Int))) (
      rq (i64 (k_1 + (1:Int))) <|
      rq (i64 (i + (1:Int))) <|
      some (.inl ((k_1 + (1:Int)), (i + (1:Int)))))) (
    some (.inr k_1))

noncomputable def laws_heldIntS (a : List Int) (k_ : Int) : Option Int :=
  loop (laws_heldIntS_l1 a) (k_, (0:Int))

/-- laws.FnExactMaximalPart -/
noncomputable def laws_FnExactMaximalPart (a0 : List ((List (Int × Int)) × Int)) : Option Bool :=
  (laws_szConstraintS a0 (1048576:Int)).bind fun r1_ =>
  cond (decide (r1_ < (0:Int))) (
    some true) (
    (laws_toConstraintS a0).bind fun r2_ =>
    (spec_MaximalPart r2_).bind fun r3_ =>
    (laws_toConstraintS a0).bind fun r4_ =>
    (impl_MaximalPart r4_).bind fun r5_ =>
    (laws_eqIntS r5_.2 r3_.2).bind fun r6_ =>
    cond (!r6_) (
      some false) (
      cond (r5_.1 != r3_.1) (
        some false) (
        (laws_toConstraintS a0).bind fun r7_ =>
        (laws_eqConstraintS r4_ r7_).bind fun r8_ =>
        cond (!r8_) (
          some false) (
          (laws_markConstraintS (1:Int) r4_).bind fun r9_ =>
          cond (decide (r9_.1 < (0:Int))) (
            some false) (
            (laws_eqIntS r5_.2 r3_.2).bind fun r10_ =>
            cond (!r10_) (
              some false) (
              cond (r5_.1 != r3_.1) (
                some false) (
                (laws_markIntS (1:Int) r5_.2).bind fun r11_ =>
                (laws_heldIntS r11_.2 (1:Int)).bind fun r12_ =>
                cond (decide (r12_ < (0:Int))) (
                  some false) (
                  cond (r12_ != r11_.1) (
                    some false) (
                    (laws_toConstraintS a0).bind fun r13_ =>
                    (impl_MaximalPart r13_).bind fun r14_ =>
                    (laws_eqIntS r14_.2 r3_.2).bind fun r15_ =>
                    cond (!r15_) (
                      some false) (
                      cond (r14_.1 != r3_.1) (
                        some false) (
                        (laws_heldIntS r11_.2 (1:Int)).bind fun r16_ =>
                        cond (decide (r16_ < (0:Int))) (
                          some false) (
                          cond (r16_ != r11_.1) (
                            some false) (
                            some true)))))))))))))

/-- spec.l11Closed -/
noncomputable def spec_l11Closed (r_ : (List Int) × Int) : Option (((List Int) × Int) × (List ((List (Int × Int)) × Int))) :=
  (spec_l5Hard r_).bind fun r1_ =>
  (spec_l17Rd_pick (3:Int) r1_.1).bind fun r2_ =>
  cond (decide ((0:Int) < r2_.1)) (
    (spec_l17Rd_pick (4:Int) r2_.2).bind fun r3_ =>
    rq (i64 ((1:Int) + r3_.1)) <|
    rq (r1_.2.length + [([((1:Int), ((1:Int) + r3_.1))], (1:Int))].length ≤ bound) <|
    rq (i64 (0 - ((1:Int) + r3_.1))) <|
    rq ([([((1:Int), (0 - ((1:Int) + r3_.1)))], (1:Int))].length + (r1_.2 ++ [([((1:Int), ((1:Int) + r3_.1))], (1:Int))]).length ≤ bound) <|
    some (r3_.2, ([([((1:Int), (0 - ((1:Int) + r3_.1)))], (1:Int))] ++ (r1_.2 ++ [([((1:Int), ((1:Int) + r3_.1))], (1:Int))])))) (
    some (r2_.2, r1_.2))

/-- spec.DrawMinimalCore -/
noncomputable def spec_DrawMinimalCore (code : List Int) : Option ((List ((List (Int × Int)) × Int))) :=
  (spec_l17Open code).bind fun r1_ =>
  (spec_l11Closed r1_).bind fun r2_ =>
  (spec_l3Mutate r2_.2 r2_.1).bind fun r3_ =>
  some r3_.2

/-- spec.DrawMaximalPart -/
noncomputable def spec_DrawMaximalPart (code : List Int) : Option ((List ((List (Int × Int)) × Int))) :=
  (spec_DrawMinimalCore code).bind fun r1_ =>
  some r1_

/-- laws.cpInts -/
noncomputable def laws_cpInts_l1 (a : List Int) (b : List Int) : Int → Option (Int ⊕ Bool) := fun i =>
  cond (decide (i < (a.length:Int))) (
    rq (0 ≤ i ∧ i < a.length) <|
    rq (0 ≤ i ∧ i < b.length) <|
    cond ((a.getD i.toNat 0) != (b.getD i.toNat 0)) (
      some (.inr false)) (
      rq (i64 (i + (1:Int))) <|
      some (.inl (i + (1:Int))))) (
    some (.inr true))

noncomputable def laws_cpInts (a : List Int) (b : List Int) : Option Bool :=
  cond ((a.length:Int) != (b.length:Int)) (
    some false) (
    loop (laws_cpInts_l1 a b) (0:Int))

/-- laws.FnMaximalPart -/
noncomputable def laws_FnMaximalPart_j1 (r1_ : (List ((List (Int × Int)) × Int))) (r2_ : Bool × (List Int)) : Unit → Option Bool := fun _ =>
  (impl_CountSolutions r1_).bind fun r15_ =>
  some (((r2_.2.length:Int) == (r1_.length:Int)) == (decide ((0:Int) < r15_)))

noncomputable def laws_FnMaximalPart_l1 (r1_ : (List ((List (Int × Int)) × Int))) (r2_ : Bool × (List Int)) (r8_ : Bool × (List ((List (Int × Int)) × Int))) : Int × Int → Option ((Int × Int) ⊕ Bool) := fun (i, i1) =>
  cond (decide (i1 < (r1_.length:Int))) (
    cond (decide (i < (r2_.2.length:Int))) (
      rq (0 ≤ i ∧ i < r2_.2.length) <|
      cond ((r2_.2.getD i.toNat 0) == i1) (
        rq (i64 (i + (1:Int))) <|
        rq (i64 (i1 + (1:Int))) <|
        some (.inl ((i + (1:Int)), (i1 + (1:Int))))) (
        rq (0 ≤ i1 ∧ i1 < r1_.length) <|
        rq (([] : List ((List (Int × Int)) × Int)).length + r8_.2.length ≤ bound) <|
        rq ((([] : List ((List (Int × Int)) × Int)) ++ r8_.2).length + [(r1_.getD i1.toNat ([], 0))].length ≤ bound) <|
        (impl_CountSolutions ((([] : List ((List (Int × Int)) × Int)) ++ r8_.2) ++ [(r1_.getD i1.toNat ([], 0))])).bind fun r13_ =>
        cond (r13_ != (0:Int)) (
          some (.inr false)) (
          rq (i64 (i1 + (1:Int))) <|
          some (.inl (i, (i1 + (1:Int))))))) (
      rq (0 ≤ i1 ∧ i1 < r1_.length) <|
      rq (([] : List ((List (Int × Int)) × Int)).length + r8_.2.length ≤ bound) <|
      rq ((([] : List ((List (Int × Int)) × Int)) ++ r8_.2).length + [(r1_.getD i1.toNat ([], 0))].length ≤ bound) <|
      (impl_CountSolutions ((([] : List ((List (Int × Int)) × Int)) ++ r8_.2) ++ [(r1_.getD i1.toNat ([], 0))])).bind fun r14_ =>
      cond (r14_ != (0:Int)) (
        some (.inr false)) (
        rq (i64 (i1 + (1:Int))) <|
        some (.inl (i, (i1 + (1:Int))))))) (
    up (laws_FnMaximalPart_j1 r1_ r2_ ()))

noncomputable def laws_FnMaximalPart (a0 : List Int) : Option Bool :=
  cond (decide ((1048576:Int) < (a0.length:Int))) (
    some true) (
    (spec_DrawMaximalPart a0).bind fun r1_ =>
    (impl_MaximalPart r1_).bind fun r2_ =>
    (spec_MaximalPart r1_).bind fun r3_ =>
    cond (r2_.1 != r3_.1) (
      cond (r2_.1 == r3_.1) (
        (laws_cpInts r2_.2 r3_.2).bind fun r7_ =>
        some r7_) (
        some false)) (
      (laws_cpInts r2_.2 r3_.2).bind fun r4_ =>
      cond (!r4_) (
        cond (r2_.1 == r3_.1) (
          (laws_cpInts r2_.2 r3_.2).bind fun r6_ =>
          some r6_) (
          some false)) (
        cond (!r2_.1) (
          cond (r2_.1 == r3_.1) (
            (laws_cpInts r2_.2 r3_.2).bind fun r5_ =>
            some r5_) (
            some false)) (
          (impl_SubProblem r1_ r2_.2).bind fun r8_ =>
          cond (!r8_.1) (
            some false) (
            (impl_CountSolutions r8_.2).bind fun r9_ =>
            cond (r9_ == (0:Int)) (
              some false) (
              loop (laws_FnMaximalPart_l1 r1_ r2_ r8_) ((0:Int), (0:Int))))))))

/-- spec.l9Coefs -/
noncomputable def spec_l9Coefs_l1 (coefs : List Int) : Int → Option (Int ⊕ Bool) := fun i =>
  cond (decide (i < (coefs.length:Int))) (
    rq (0 ≤ i ∧ i < coefs.length) <|
    cond (decide ((coefs.getD i.toNat 0) < (-9:Int))) (
      some (.inr false)) (
      rq (0 ≤ i ∧ i < coefs.length) <|
      cond (decide ((9:Int) < (coefs.getD i.toNat 0))) (
        some (.inr false)) (
        rq (i64 (i + (1:Int))) <|
        some (.inl (i + (1:Int)))))) (
    some (.inr true))

noncomputable def spec_l9Coefs (m : (List Int) × (List (Int × (List Int) × (List Int) × Int × (List (List Int))))) (coefs : List Int) : Option Bool :=
  (spec_ModelValid m).bind fun r1_ =>
  cond (!r1_) (
    some false) (
    cond ((coefs.length:Int) != (m.1.length:Int)) (
      some false) (
      loop (spec_l9Coefs_l1 coefs) (0:Int)))

/-- spec.l6Cells -/
noncomputable def spec_l6Cells_l1 (m : (List Int) × (List (Int × (List Int) × (List Int) × Int × (List (List Int))))) (cells : List Int) : Int → Option (Int ⊕ Bool) := fun i =>
  cond (decide (i < (cells.length:Int))) (
    rq (0 ≤ i ∧ i < cells.length) <|
    cond (decide ((cells.getD i.toNat 0) < (0:Int))) (
      some (.inr false)) (
      rq (0 ≤ i ∧ i < cells.length) <|
      rq (0 ≤ i ∧ i < m.1.length) <|
      cond (decide ((m.1.getD i.toNat 0) < (cells.getD i.toNat 0))) (
        some (.inr false)) (
        rq (i64 (i + (1:Int))) <|
        some (.inl (i + (1:Int)))))) (
    some (.inr true))

noncomputable def spec_l6Cells (m : (List Int) × (List (Int × (List Int) × (List Int) × Int × (List (List Int))))) (cells : List Int) : Option Bool :=
  cond ((cells.length:Int) != (m.1.length:Int)) (
    some false) (
    loop (spec_l6Cells_l1 m cells) (0:Int))

/-- spec.l9Value -/
noncomputable def spec_l9Value_l1 (coefs : List Int) (cells : List Int) : Int × Int → Option ((Int × Int) ⊕ Int) := fun (n, i) =>
  cond (decide (i < (cells.length:Int))) (
    rq (0 ≤ i ∧ i < coefs.length) <|
    rq (0 ≤ i ∧ i < cells.length) <|
    rq (i64 ((coefs.getD i.toNat 0) * (cells.getD i.toNat 0))) <|
    rq (i64 (n + ((coefs.getD i.toNat 0) * (cells.getD i.toNat 0)))) <|
    rq (i64 (i + (1:Int))) <|
    some (.inl ((n + ((coefs.getD i.toNat 0) * (cells.getD i.toNat 0))), (i + (1:Int))))) (
    some (.inr n))

noncomputable def spec_l9Value (coefs : List Int) (cells : List Int) : Option Int :=
  loop (spec_l9Value_l1 coefs cells) ((0:Int), (0:Int))

/-- spec.ObjectiveValue -/
noncomputable def spec_ObjectiveValue (m : (List Int) × (List (Int × (List Int) × (List Int) × Int × (List (List Int))))) (coefs : List Int) (cells : List Int) : Option (Int × Bool) :=
  (spec_l9Coefs m coefs).bind fun r1_ =>
  cond (!r1_) (
    some ((0:Int), false)) (
    (spec_l6Cells m cells).bind fun r2_ =>
    cond (!r2_) (
      some ((0:Int), false)) (
      (spec_l9Value coefs cells).bind fun r3_ =>
      some (r3_, true)))

/-- impl.CellsValid -/
noncomputable def impl_CellsValid_l1 (m : (List Int) × (List (Int × (List Int) × (List Int) × Int × (List (List Int))))) (cells : List Int) : Int → Option (Int ⊕ Bool) := fun i =>
  cond (decide (i < (cells.length:Int))) (
    rq (0 ≤ i ∧ i < cells.length) <|
    rq (0 ≤ i ∧ i < m.1.length) <|
    (impl_within (cells.getD i.toNat 0) (0:Int) (m.1.getD i.toNat 0)).bind fun r2_ =>
    cond (!r2_) (
      some (.inr false)) (
      rq (i64 (i + (1:Int))) <|
      some (.inl (i + (1:Int))))) (
    some (.inr true))

noncomputable def impl_CellsValid (m : (List Int) × (List (Int × (List Int) × (List Int) × Int × (List (List Int))))) (cells : List Int) : Option Bool :=
  (impl_ModelValid m).bind fun r1_ =>
  cond (!r1_) (
    some false) (
    cond ((cells.length:Int) != (m.1.length:Int)) (
      some false) (
      loop (impl_CellsValid_l1 m cells) (0:Int)))

/-- impl.isObjective$1 -/
noncomputable def impl_isObjective_1 (n : Int) : Option Bool :=
  (impl_within n (-9:Int) (9:Int)).bind fun r1_ =>
  some (!r1_)

/-- slices.IndexFunc[[]int,int] -/
noncomputable def slices_IndexFunc_int__impl_isObjective_1_l1 (s_ : List Int) : Int → Option (Int ⊕ Int) := fun i =>
  cond (decide (i < (s_.length:Int))) (
    rq (0 ≤ i ∧ i < s_.length) <|
    (impl_isObjective_1 (s_.getD i.toNat 0)).bind fun r1_ =>
    cond r1_ (
      some (.inr i)) (
      rq (i64 (i + (1:Int))) <|
      some (.inl (i + (1:Int))))) (
    some (.inr (-1:Int)))

noncomputable def slices_IndexFunc_int__impl_isObjective_1 (s_ : List Int) : Option Int :=
  loop (slices_IndexFunc_int__impl_isObjective_1_l1 s_) (0:Int)

/-- slices.ContainsFunc[[]int,int] -/
noncomputable def slices_ContainsFunc_int__impl_isObjective_1 (s_ : List Int) : Option Bool :=
  (slices_IndexFunc_int__impl_isObjective_1 s_).bind fun r1_ =>
  some (decide ((0:Int) ≤ r1_))

/-- impl.isObjective -/
noncomputable def impl_isObjective (m : (List Int) × (List (Int × (List Int) × (List Int) × Int × (List (List Int))))) (coefs : List Int) : Option Bool :=
  cond ((coefs.length:Int) == (m.1.length:Int)) (
    (slices_ContainsFunc_int__impl_isObjective_1 coefs).bind fun r1_ =>
    some (!r1_)) (
    some false)

/-- impl.valueOf -/
noncomputable def impl_valueOf_l1 (coefs : List Int) (cells : List Int) : Int × Int → Option ((Int × Int) ⊕ Int) := fun (sum, i) =>
  cond (decide (i < (cells.length:Int))) (
    rq (0 ≤ i ∧ i < cells.length) <|
    rq (0 ≤ i ∧ i < coefs.length) <|
    rq (i64 ((coefs.getD i.toNat 0) * (cells.getD i.toNat 0))) <|
    rq (i64 (sum + ((coefs.getD i.toNat 0) * (cells.getD i.toNat 0)))) <|
    rq (i64 (i + (1:Int))) <|
    some (.inl ((sum + ((coefs.getD i.toNat 0) * (cells.getD i.toNat 0))), (i + (1:Int))))) (
    some (.inr sum))

noncomputable def impl_valueOf (coefs : List Int) (cells : List Int) : Option Int :=
  loop (impl_valueOf_l1 coefs cells) ((0:Int), (0:Int))

/-- impl.ObjectiveValue -/
noncomputable def impl_ObjectiveValue (m : (List Int) × (List (Int × (List Int) × (List Int) × Int × (List (List Int))))) (coefs : List Int) (cells : List Int) : Option (Int × Bool) :=
  (impl_CellsValid m cells).bind fun r1_ =>
  cond (!r1_) (
    some ((0:Int), false)) (
    (impl_isObjective m coefs).bind fun r2_ =>
    cond (!r2_) (
      some ((0:Int), false)) (
      (impl_valueOf coefs cells).bind fun r3_ =>
      some (r3_, true)))

/-- laws.FnExactObjectiveValue -/
noncomputable def laws_FnExactObjectiveValue_j1 (a1 : List Int) (a2 : List Int) (r7_ : (List Int)) (r8_ : (List Int)) : Unit → Option Bool := fun _ =>
  (laws_toIntS a1).bind fun r14_ =>
  (laws_eqIntS r7_ r14_).bind fun r15_ =>
  cond (!r15_) (
    some false) (
    (laws_toIntS a2).bind fun r16_ =>
    (laws_eqIntS r8_ r16_).bind fun r17_ =>
    cond (!r17_) (
      some false) (
      some true))

noncomputable def laws_FnExactObjectiveValue (a0 : (List Int) × (List (Int × (List Int) × (List Int) × Int × (List (List Int))))) (a1 : List Int) (a2 : List Int) : Option Bool :=
  cond (decide ((1048576:Int) < (a1.length:Int))) (
    some true) (
    cond (decide ((1048576:Int) < (a2.length:Int))) (
      some true) (
      (laws_szModel a0 (1048576:Int)).bind fun r1_ =>
      cond (decide (r1_ < (0:Int))) (
        some true) (
        (laws_toModel a0).bind fun r2_ =>
        (laws_toIntS a1).bind fun r3_ =>
        (laws_toIntS a2).bind fun r4_ =>
        (spec_ObjectiveValue r2_ r3_ r4_).bind fun r5_ =>
        (laws_toModel a0).bind fun r6_ =>
        (laws_toIntS a1).bind fun r7_ =>
        (laws_toIntS a2).bind fun r8_ =>
        (impl_ObjectiveValue r6_ r7_ r8_).bind fun r9_ =>
        cond (r9_.1 != r5_.1) (
          some false) (
          cond (r9_.2 != r5_.2) (
            some false) (
            (laws_toModel a0).bind fun r12_ =>
            (laws_eqModel r6_ r12_).bind fun r13_ =>
            cond (!r13_) (
              some false) (
              laws_FnExactObjectiveValue_j1 a1 a2 r7_ r8_ ()))))))

/-- spec.MinimalCore -/
noncomputable def spec_MinimalCore_l2 (list_ : List ((List (Int × Int)) × Int)) (i : Int) : Int × (List Int) → Option ((Int × (List Int)) ⊕ ((Int × (List Int)) ⊕ (Bool × (List Int)))) := fun (k_1, keep2) =>
  cond (decide (k_1 < (keep2.length:Int))) (
    rq (0 ≤ k_1 ∧ k_1 < keep2.length) <|
    cond ((keep2.getD k_1.toNat 0) == i) (
      (spec_l11Without keep2 k_1).bind fun r16_ =>
      (spec_l11Sub list_ r16_).bind fun r17_ =>
      (spec_l11Open r17_).bind fun r18_ =>
      cond (!r18_) (
        (spec_l11Without keep2 k_1).bind fun r19_ =>
        rq (i64 (k_1 + (1:Int))) <|
        some (.inl ((k_1 + (1:Int)), r19_))) (
        rq (i64 (k_1 + (1:Int))) <|
        some (.inl ((k_1 + (1:Int)), keep2)))) (
      rq (i64 (k_1 + (1:Int))) <|
      some (.inl ((k_1 + (1:Int)), keep2)))) (
    rq (i64 (i - (1:Int))) <|
    some (.inr (.inl ((i - (1:Int)), keep2))))

noncomputable def spec_MinimalCore_l1 (list_ : List ((List (Int × Int)) × Int)) : Int × (List Int) → Option ((Int × (List Int)) ⊕ (Bool × (List Int))) := fun (i, keep1) =>
  cond (decide ((0:Int) ≤ i)) (
    loop (spec_MinimalCore_l2 list_ i) ((0:Int), keep1)) (
    some (.inr (true, keep1)))

noncomputable def spec_MinimalCore (list_ : List ((List (Int × Int)) × Int)) : Option (Bool × (List Int)) :=
  (spec_ProblemValid list_).bind fun r1_ =>
  cond (!r1_) (
    some (false, ([] : List Int))) (
    (spec_l11Open list_).bind fun r2_ =>
    cond r2_ (
      some (false, ([] : List Int))) (
      (spec_l11Count (list_.length:Int)).bind fun r3_ =>
      rq (i64 ((list_.length:Int) - (1:Int))) <|
      loop (spec_MinimalCore_l1 list_) (((list_.length:Int) - (1:Int)), r3_)))

/-- spec.DrawCoreMinimal -/
noncomputable def spec_DrawCoreMinimal (code : List Int) : Option ((List ((List (Int × Int)) × Int))) :=
  (spec_l17Open code).bind fun r1_ =>
  (spec_l11Closed r1_).bind fun r2_ =>
  (spec_l3Mutate r2_.2 r2_.1).bind fun r3_ =>
  (spec_MinimalCore r3_.2).bind fun r4_ =>
  cond r4_.1 (
    (spec_l17Rd_pick (2:Int) r3_.1).bind fun r5_ =>
    cond (r5_.1 == (0:Int)) (
      (spec_l11Sub r3_.2 r4_.2).bind fun r6_ =>
      some r6_) (
      some r3_.2)) (
    some r3_.2)

/-- impl.MinimalCore -/
noncomputable def impl_MinimalCore_l1 (list_ : List ((List (Int × Int)) × Int)) : Int × (List Int) → Option ((Int × (List Int)) ⊕ (Bool × (List Int))) := fun (k_, out) =>
  cond (decide ((0:Int) ≤ k_)) (
    (impl_without out k_).bind fun r7_ =>
    (impl_partOf__s list_ r7_).bind fun r8_ =>
    (impl_solvable r8_).bind fun r9_ =>
    cond (!r9_) (
      rq (i64 (k_ - (1:Int))) <|
      some (.inl ((k_ - (1:Int)), r7_))) (
      rq (i64 (k_ - (1:Int))) <|
      some (.inl ((k_ - (1:Int)), out)))) (
    some (.inr (true, out)))

noncomputable def impl_MinimalCore (list_ : List ((List (Int × Int)) × Int)) : Option (Bool × (List Int)) :=
  (impl_ProblemValid list_).bind fun r1_ =>
  cond (!r1_) (
    some (false, ([] : List Int))) (
    (impl_solvable list_).bind fun r2_ =>
    cond r2_ (
      some (false, ([] : List Int))) (
      (impl_indices (list_.length:Int)).bind fun r3_ =>
      rq (i64 ((list_.length:Int) - (1:Int))) <|
      loop (impl_MinimalCore_l1 list_) (((list_.length:Int) - (1:Int)), r3_)))

/-- laws.FnCoreMinimal -/
noncomputable def laws_FnCoreMinimal (code : List Int) : Option Bool :=
  cond (decide ((1048576:Int) < (code.length:Int))) (
    some true) (
    (spec_DrawCoreMinimal code).bind fun r1_ =>
    (impl_CoreMinimal r1_).bind fun r2_ =>
    (spec_CoreMinimal r1_).bind fun r3_ =>
    cond (r2_ != r3_) (
      (spec_CoreMinimal r1_).bind fun r5_ =>
      some (r2_ == r5_)) (
      cond (!r2_) (
        (spec_CoreMinimal r1_).bind fun r4_ =>
        some (r2_ == r4_)) (
        (impl_MinimalCore r1_).bind fun r6_ =>
        cond r6_.1 (
          some ((r6_.2.length:Int) == (r1_.length:Int))) (
          some false))))

/-- spec.l6Some -/
noncomputable def spec_l6Some__rsd_j3 (i3 : (List Int) × Int) : (List Int) → Option (((List Int) × Int) × (List Int)) := fun i12 =>
  cond (decide ((1:Int) < (i12.length:Int))) (
    (spec_l17Rd_pick (3:Int) i3).bind fun r3_ =>
    cond (r3_.1 == (0:Int)) (
      rq (0 ≤ (0:Int) ∧ (0:Int) < i12.length) <|
      rq (0 ≤ (1:Int) ∧ (1:Int) < i12.length) <|
      rq (0 ≤ (0:Int) ∧ (0:Int) < i12.length) <|
      rq (0 ≤ (1:Int) ∧ (1:Int) < (i12.set (0:Int).toNat (i12.getD (1:Int).toNat 0)).length) <|
      some (r3_.2, ((i12.set (0:Int).toNat (i12.getD (1:Int).toNat 0)).set (1:Int).toNat (i12.getD (0:Int).toNat 0)))) (
      some (r3_.2, i12))) (
    some (i3, i12))

noncomputable def spec_l6Some__rsd_l1 (a2 : Int) (i3 : (List Int) × Int) : Int × (List Int) → Option ((Int × (List Int)) ⊕ (((List Int) × Int) × (List Int))) := fun (i10, i11) =>
  cond (decide (i10 < a2)) (
    rq (i11.length + [i10].length ≤ bound) <|
    rq (i64 (i10 + (1:Int))) <|
    some (.inl ((i10 + (1:Int)), (i11 ++ [i10])))) (
    up (spec_l6Some__rsd_j3 i3 i11))

noncomputable def spec_l6Some__rsd_l2 (a2 : Int) (i3 : (List Int) × Int) : Int × (List Int) → Option ((Int × (List Int)) ⊕ (((List Int) × Int) × (List Int))) := fun (i8, i9) =>
  cond (decide (i8 < a2)) (
    rq (i9.length + [i8].length ≤ bound) <|
    rq (i64 (i8 + (1:Int))) <|
    some (.inl ((i8 + (1:Int)), (i9 ++ [i8])))) (
    up (spec_l6Some__rsd_j3 i3 i9))

noncomputable def spec_l6Some__rsd_j2 (a2 : Int) (i3 : (List Int) × Int) : (List Int) → Option (((List Int) × Int) × (List Int)) := fun i7 =>
  cond (decide ((i7.length:Int) < a2)) (
    loop (spec_l6Some__rsd_l1 a2 i3) ((0:Int), ([] : List Int))) (
    cond ((i7.length:Int) == (0:Int)) (
      loop (spec_l6Some__rsd_l2 a2 i3) ((0:Int), ([] : List Int))) (
      spec_l6Some__rsd_j3 i3 i7))

noncomputable def spec_l6Some__rsd_l3 (a2 : Int) (o1 : List Int) (i3 : (List Int) × Int) : Int × (List Int) → Option ((Int × (List Int)) ⊕ (((List Int) × Int) × (List Int))) := fun (i5, i6) =>
  cond (decide ((i6.length:Int) < a2)) (
    cond (decide (i5 < (o1.length:Int))) (
      cond ((i6.length:Int) == (0:Int)) (
        rq (i6.length + [i5].length ≤ bound) <|
        rq (i64 (i5 + (1:Int))) <|
        some (.inl ((i5 + (1:Int)), (i6 ++ [i5])))) (
        rq (i64 ((i6.length:Int) - (1:Int))) <|
        rq (0 ≤ ((i6.length:Int) - (1:Int)) ∧ ((i6.length:Int) - (1:Int)) < i6.length) <|
        cond (decide ((i6.getD ((i6.length:Int) - (1:Int)).toNat 0) < i5)) (
          rq (i6.length + [i5].length ≤ bound) <|
          rq (i64 (i5 + (1:Int))) <|
          some (.inl ((i5 + (1:Int)), (i6 ++ [i5])))) (
          rq (i64 (i5 + (1:Int))) <|
          some (.inl ((i5 + (1:Int)), i6))))) (
      up (spec_l6Some__rsd_j2 a2 i3 i6))) (
    up (spec_l6Some__rsd_j2 a2 i3 i6))

noncomputable def spec_l6Some__rsd_j1 (a2 : Int) (o1 : List Int) : ((List Int) × Int) × (List Int) → Option (((List Int) × Int) × (List Int)) := fun (i3, i4) =>
  loop (spec_l6Some__rsd_l3 a2 o1 i3) ((0:Int), i4)

noncomputable def spec_l6Some__rsd_l4 (a2 : Int) (o1 : List Int) : Int × ((List Int) × Int) × (List Int) → Option ((Int × ((List Int) × Int) × (List Int)) ⊕ (((List Int) × Int) × (List Int))) := fun (i, i1, i2) =>
  cond (decide (i < (o1.length:Int))) (
    (spec_l17Rd_pick (3:Int) i1).bind fun r2_ =>
    cond (decide ((0:Int) < r2_.1)) (
      rq (i2.length + [i].length ≤ bound) <|
      rq (i64 (i + (1:Int))) <|
      some (.inl ((i + (1:Int)), r2_.2, (i2 ++ [i])))) (
      rq (i64 (i + (1:Int))) <|
      some (.inl ((i + (1:Int)), r2_.2, i2)))) (
    up (spec_l6Some__rsd_j1 a2 o1 (i1, i2)))

noncomputable def spec_l6Some__rsd (a2 : Int) (o0 : (List Int) × Int) (o1 : List Int) (o2 : List (Int × (List Int) × (List Int) × Int × (List (List Int)))) : Option (((List Int) × Int) × (List Int)) :=
  loop (spec_l6Some__rsd_l4 a2 o1) ((0:Int), o0, ([] : List Int))

/-- spec.l6Draw -/
noncomputable def spec_l6Draw__rsd_j1 (r1_ : Int × ((List Int) × Int)) (r2_ : ((List Int) × Int) × (List Int)) : ((List Int) × Int) × (List Int) → Option (((List Int) × Int) × Int × Int × (List Int) × (List Int) × (List (List Int))) := fun (i2, i_21) =>
  (spec_l17Rd_num [(1:Int), (2:Int), (0:Int), (-1:Int), (3:Int), (-3:Int), (4:Int)] i2).bind fun r6_ =>
  some (r6_.2, r1_.1, r6_.1, r2_.2, i_21, ([] : List (List Int)))

noncomputable def spec_l6Draw__rsd_l1 (r1_ : Int × ((List Int) × Int)) (r2_ : ((List Int) × Int) × (List Int)) : Int × ((List Int) × Int) × (List Int) → Option ((Int × ((List Int) × Int) × (List Int)) ⊕ (((List Int) × Int) × Int × Int × (List Int) × (List Int) × (List (List Int)))) := fun (i, i1, i_2) =>
  cond (decide (i < (r2_.2.length:Int))) (
    (spec_l17Rd_num [(1:Int), (-1:Int), (2:Int), (1:Int), (-2:Int), (3:Int)] i1).bind fun r5_ =>
    rq (i_2.length + [r5_.1].length ≤ bound) <|
    rq (i64 (i + (1:Int))) <|
    some (.inl ((i + (1:Int)), r5_.2, (i_2 ++ [r5_.1])))) (
    up (spec_l6Draw__rsd_j1 r1_ r2_ (i1, i_2)))

noncomputable def spec_l6Draw__rsd_j2 (i3 : Int) (i_4 : List (List Int)) : ((List Int) × Int) × (List Int) → Option ((Int × ((List Int) × Int) × (List (List Int))) ⊕ (((List Int) × Int) × Int × Int × (List Int) × (List Int) × (List (List Int)))) := fun (i13, i14) =>
  rq (i_4.length + [i14].length ≤ bound) <|
  rq (i64 (i3 - (1:Int))) <|
  some (.inl ((i3 - (1:Int)), i13, (i_4 ++ [i14])))

noncomputable def spec_l6Draw__rsd_l3 (r2_ : ((List Int) × Int) × (List Int)) (i3 : Int) (i_4 : List (List Int)) : Int × ((List Int) × Int) × (List Int) → Option ((Int × ((List Int) × Int) × (List Int)) ⊕ ((Int × ((List Int) × Int) × (List (List Int))) ⊕ (((List Int) × Int) × Int × Int × (List Int) × (List Int) × (List (List Int))))) := fun (i10, i11, i12) =>
  cond (decide (i10 < (r2_.2.length:Int))) (
    (spec_l17Rd_pick (4:Int) i11).bind fun r11_ =>
    rq (i12.length + [r11_.1].length ≤ bound) <|
    rq (i64 (i10 + (1:Int))) <|
    some (.inl ((i10 + (1:Int)), r11_.2, (i12 ++ [r11_.1])))) (
    up (spec_l6Draw__rsd_j2 i3 i_4 (i11, i12)))

noncomputable def spec_l6Draw__rsd_l2 (r1_ : Int × ((List Int) × Int)) (r2_ : ((List Int) × Int) × (List Int)) : Int × ((List Int) × Int) × (List (List Int)) → Option ((Int × ((List Int) × Int) × (List (List Int))) ⊕ (((List Int) × Int) × Int × Int × (List Int) × (List Int) × (List (List Int)))) := fun (i3, i9, i_4) =>
  cond (decide ((0:Int) < i3)) (
    loop (spec_l6Draw__rsd_l3 r2_ i3 i_4) ((0:Int), i9, ([] : List Int))) (
    some (.inr (i9, r1_.1, (0:Int), r2_.2, ([] : List Int), i_4)))

noncomputable def spec_l6Draw__rsd (o0 : (List Int) × Int) (o1 : List Int) (o2 : List (Int × (List Int) × (List Int) × Int × (List (List Int)))) : Option (((List Int) × Int) × Int × Int × (List Int) × (List Int) × (List (List Int))) :=
  (spec_l17Rd_num [(1:Int), (2:Int), (3:Int), (4:Int), (1:Int)] o0).bind fun r1_ =>
  (spec_l6Some__rsd (1:Int) r1_.2 o1 o2).bind fun r2_ =>
  cond (r1_.1 == (1:Int)) (
    loop (spec_l6Draw__rsd_l1 r1_ r2_) ((0:Int), r2_.1, ([] : List Int))) (
    cond (r1_.1 == (3:Int)) (
      (spec_l17Rd_num [(3:Int), (4:Int), (2:Int), (6:Int), (0:Int), (8:Int)] r2_.1).bind fun r7_ =>
      loop (spec_l6Draw__rsd_l2 r1_ r2_) (r7_.1, r7_.2, ([] : List (List Int)))) (
      cond (r1_.1 == (4:Int)) (
        (spec_l6Some__rsd (2:Int) r2_.1 o1 o2).bind fun r12_ =>
        rq (0 ≤ (2:Int) ∧ (2:Int) ≤ r12_.2.length) <|
        some (r12_.1, r1_.1, (0:Int), (r12_.2.take (2:Int).toNat), ([] : List Int), ([] : List (List Int)))) (
        some (r2_.1, r1_.1, (0:Int), r2_.2, ([] : List Int), ([] : List (List Int))))))

/-- spec.l6Model -/
noncomputable def spec_l6Model_l1 (i_03 : List Int) : Int × ((List Int) × Int) × (List (Int × (List Int) × (List Int) × Int × (List (List Int)))) → Option ((Int × ((List Int) × Int) × (List (Int × (List Int) × (List Int) × Int × (List (List Int))))) ⊕ (((List Int) × Int) × (List Int) × (List (Int × (List Int) × (List Int) × Int × (List (List Int)))))) := fun (i8, i9, i_1) =>
  cond (decide ((0:Int) < i8)) (
    (spec_l6Draw__rsd i9 i_03 i_1).bind fun r8_ =>
    rq (i_1.length + [(r8_.2.1, (r8_.2.2.2.1, (r8_.2.2.2.2.1, (r8_.2.2.1, r8_.2.2.2.2.2))))].length ≤ bound) <|
    rq (i64 (i8 - (1:Int))) <|
    some (.inl ((i8 - (1:Int)), r8_.1, (i_1 ++ [(r8_.2.1, (r8_.2.2.2.1, (r8_.2.2.2.2.1, (r8_.2.2.1, r8_.2.2.2.2.2))))])))) (
    some (.inr (i9, i_03, i_1)))

noncomputable def spec_l6Model_j2 (i2 : (List Int) × Int) : (List Int) → Option (((List Int) × Int) × (List Int) × (List (Int × (List Int) × (List Int) × Int × (List (List Int))))) := fun i_03 =>
  (spec_l17Rd_num [(2:Int), (3:Int), (1:Int), (4:Int), (0:Int)] i2).bind fun r5_ =>
  loop (spec_l6Model_l1 i_03) (r5_.1, r5_.2, ([] : List (Int × (List Int) × (List Int) × Int × (List (List Int)))))

noncomputable def spec_l6Model_l3 (i_02 : List Int) : Int × Int → Option ((Int × Int) ⊕ ((Int × (List Int)) ⊕ (((List Int) × Int) × (List Int) × (List (Int × (List Int) × (List Int) × Int × (List (List Int))))))) := fun (i6, i7) =>
  cond (decide (i7 < (i_02.length:Int))) (
    rq (0 ≤ i7 ∧ i7 < i_02.length) <|
    rq (i64 (i6 + (i_02.getD i7.toNat 0))) <|
    rq (i64 ((i6 + (i_02.getD i7.toNat 0)) + (1:Int))) <|
    rq (i64 (i7 + (1:Int))) <|
    some (.inl (((i6 + (i_02.getD i7.toNat 0)) + (1:Int)), (i7 + (1:Int))))) (
    cond (decide ((12:Int) < i6)) (
      rq (i64 ((i_02.length:Int) - (1:Int))) <|
      rq (0 ≤ ((i_02.length:Int) - (1:Int)) ∧ ((i_02.length:Int) - (1:Int)) ≤ i_02.length) <|
      some (.inr (.inl ((0:Int), (i_02.take ((i_02.length:Int) - (1:Int)).toNat))))) (
      some (.inr (.inl (i6, i_02)))))

noncomputable def spec_l6Model_l2 (i2 : (List Int) × Int) : Int × (List Int) → Option ((Int × (List Int)) ⊕ (((List Int) × Int) × (List Int) × (List (Int × (List Int) × (List Int) × Int × (List (List Int)))))) := fun (i3, i_02) =>
  cond (i3 == (0:Int)) (
    loop (spec_l6Model_l3 i_02) (i3, (0:Int))) (
    up (spec_l6Model_j2 i2 i_02))

noncomputable def spec_l6Model_j1 : ((List Int) × Int) × (List Int) → Option (((List Int) × Int) × (List Int) × (List (Int × (List Int) × (List Int) × Int × (List (List Int))))) := fun (i2, i_01) =>
  loop (spec_l6Model_l2 i2) ((0:Int), i_01)

noncomputable def spec_l6Model_l4 : Int × ((List Int) × Int) × (List Int) → Option ((Int × ((List Int) × Int) × (List Int)) ⊕ (((List Int) × Int) × (List Int) × (List (Int × (List Int) × (List Int) × Int × (List (List Int)))))) := fun (i, i1, i_0) =>
  cond (decide ((0:Int) < i)) (
    (spec_l17Rd_num [(2:Int), (1:Int), (3:Int), (2:Int), (0:Int)] i1).bind fun r4_ =>
    rq (i_0.length + [r4_.1].length ≤ bound) <|
    rq (i64 (i - (1:Int))) <|
    some (.inl ((i - (1:Int)), r4_.2, (i_0 ++ [r4_.1])))) (
    up (spec_l6Model_j1 (i1, i_0)))

noncomputable def spec_l6Model (o0 : (List Int) × Int) : Option (((List Int) × Int) × (List Int) × (List (Int × (List Int) × (List Int) × Int × (List (List Int))))) :=
  (spec_l17Rd_num [(3:Int), (2:Int), (4:Int), (3:Int)] o0).bind fun r1_ =>
  loop (spec_l6Model_l4) (r1_.1, r1_.2, ([] : List Int))

/-- spec.l6Copy -/
noncomputable def spec_l6Copy_j3 (m : (List Int) × (List (Int × (List Int) × (List Int) × Int × (List (List Int))))) (i : Int) (out_1 : List (Int × (List Int) × (List Int) × Int × (List (List Int)))) : (List (List Int)) → Option ((Int × (List (Int × (List Int) × (List Int) × Int × (List (List Int))))) ⊕ ((List Int) × (List (Int × (List Int) × (List Int) × Int × (List (List Int)))))) := fun y_43 =>
  rq (out_1.length + [((m.2.getD i.toNat (0, ([], ([], (0, []))))).1, ((([] : List Int) ++ (m.2.getD i.toNat (0, ([], ([], (0, []))))).2.1), ((([] : List Int) ++ (m.2.getD i.toNat (0, ([], ([], (0, []))))).2.2.1), ((m.2.getD i.toNat (0, ([], ([], (0, []))))).2.2.2.1, y_43))))].length ≤ bound) <|
  rq (i64 (i + (1:Int))) <|
  some (.inl ((i + (1:Int)), (out_1 ++ [((m.2.getD i.toNat (0, ([], ([], (0, []))))).1, ((([] : List Int) ++ (m.2.getD i.toNat (0, ([], ([], (0, []))))).2.1), ((([] : List Int) ++ (m.2.getD i.toNat (0, ([], ([], (0, []))))).2.2.1), ((m.2.getD i.toNat (0, ([], ([], (0, []))))).2.2.2.1, y_43))))])))

noncomputable def spec_l6Copy_l2 (m : (List Int) × (List (Int × (List Int) × (List Int) × Int × (List (List Int))))) (i : Int) (out_1 : List (Int × (List Int) × (List Int) × Int × (List (List Int)))) : Int × (List (List Int)) → Option ((Int × (List (List Int))) ⊕ ((Int × (List (Int × (List Int) × (List Int) × Int × (List (List Int))))) ⊕ ((List Int) × (List (Int × (List Int) × (List Int) × Int × (List (List Int))))))) := fun (k_1, y_42) =>
  cond (decide (k_1 < ((m.2.getD i.toNat (0, ([], ([], (0, []))))).2.2.2.2.length:Int))) (
    rq (0 ≤ k_1 ∧ k_1 < (m.2.getD i.toNat (0, ([], ([], (0, []))))).2.2.2.2.length) <|
    rq (([] : List Int).length + ((m.2.getD i.toNat (0, ([], ([], (0, []))))).2.2.2.2.getD k_1.toNat []).length ≤ bound) <|
    rq (y_42.length + [(([] : List Int) ++ ((m.2.getD i.toNat (0, ([], ([], (0, []))))).2.2.2.2.getD k_1.toNat []))].length ≤ bound) <|
    rq (i64 (k_1 + (1:Int))) <|
    some (.inl ((k_1 + (1:Int)), (y_42 ++ [(([] : List Int) ++ ((m.2.getD i.toNat (0, ([], ([], (0, []))))).2.2.2.2.getD k_1.toNat []))])))) (
    up (spec_l6Copy_j3 m i out_1 y_42))

noncomputable def spec_l6Copy_j2 (m : (List Int) × (List (Int × (List Int) × (List Int) × Int × (List (List Int))))) (i : Int) (out_1 : List (Int × (List Int) × (List Int) × Int × (List (List Int)))) : Unit → Option ((Int × (List (Int × (List Int) × (List Int) × Int × (List (List Int))))) ⊕ ((List Int) × (List (Int × (List Int) × (List Int) × Int × (List (List Int)))))) := fun _ =>
  loop (spec_l6Copy_l2 m i out_1) ((0:Int), ([] : List (List Int)))

noncomputable def spec_l6Copy_j1 (m : (List Int) × (List (Int × (List Int) × (List Int) × Int × (List (List Int))))) (i : Int) (out_1 : List (Int × (List Int) × (List Int) × Int × (List (List Int)))) : Unit → Option ((Int × (List (Int × (List Int) × (List Int) × Int × (List (List Int))))) ⊕ ((List Int) × (List (Int × (List Int) × (List Int) × Int × (List (List Int)))))) := fun _ =>
  rq (([] : List Int).length + (m.2.getD i.toNat (0, ([], ([], (0, []))))).2.1.length ≤ bound) <|
  rq (([] : List Int).length + (m.2.getD i.toNat (0, ([], ([], (0, []))))).2.2.1.length ≤ bound) <|
  spec_l6Copy_j2 m i out_1 ()

noncomputable def spec_l6Copy_l1 (m : (List Int) × (List (Int × (List Int) × (List Int) × Int × (List (List Int))))) : Int × (List (Int × (List Int) × (List Int) × Int × (List (List Int)))) → Option ((Int × (List (Int × (List Int) × (List Int) × Int × (List (List Int))))) ⊕ ((List Int) × (List (Int × (List Int) × (List Int) × Int × (List (List Int)))))) := fun (i, out_1) =>
  cond (decide (i < (m.2.length:Int))) (
    rq (0 ≤ i ∧ i < m.2.length) <|
    spec_l6Copy_j1 m i out_1 ()) (
    some (.inr ((([] : List Int) ++ m.1), out_1)))

noncomputable def spec_l6Copy (m : (List Int) × (List (Int × (List Int) × (List Int) × Int × (List (List Int))))) : Option ((List Int) × (List (Int × (List Int) × (List Int) × Int × (List (List Int))))) :=
  rq (([] : List Int).length + m.1.length ≤ bound) <|
  loop (spec_l6Copy_l1 m) ((0:Int), ([] : List (Int × (List Int) × (List Int) × Int × (List (List Int)))))

/-- spec.l6Mutate -/
noncomputable def spec_l6Mutate_l1 (r1_ : (List Int) × (List (Int × (List Int) × (List Int) × Int × (List (List Int))))) (r2_ : Int × ((List Int) × Int)) : (List Int) → Option ((List Int) ⊕ (((List Int) × Int) × (List Int) × (List (Int × (List Int) × (List Int) × Int × (List (List Int)))))) := fun i_0 =>
  cond (decide ((i_0.length:Int) ≤ (5:Int))) (
    rq (i_0.length + [(0:Int)].length ≤ bound) <|
    some (.inl (i_0 ++ [(0:Int)]))) (
    some (.inr (r2_.2, i_0, r1_.2)))

noncomputable def spec_l6Mutate (a1 : (List Int) × (List (Int × (List Int) × (List Int) × Int × (List (List Int))))) (o0 : (List Int) × Int) : Option (((List Int) × Int) × (List Int) × (List (Int × (List Int) × (List Int) × Int × (List (List Int))))) :=
  (spec_l6Copy a1).bind fun r1_ =>
  (spec_l17Rd_pick (50:Int) o0).bind fun r2_ =>
  cond (r2_.1 == (0:Int)) (
    cond (decide ((0:Int) < (r1_.1.length:Int))) (
      (spec_l17Rd_num [(-1:Int), (4:Int), (3:Int), (9223372036854775807:Int)] r2_.2).bind fun r4_ =>
      rq (0 ≤ (0:Int) ∧ (0:Int) < r1_.1.length) <|
      some (r4_.2, (r1_.1.set (0:Int).toNat r4_.1), r1_.2)) (
      some (r2_.2, r1_.1, r1_.2))) (
    cond (r2_.1 == (1:Int)) (
      loop (spec_l6Mutate_l1 r1_ r2_) r1_.1) (
      cond (r2_.1 == (2:Int)) (
        cond (decide ((0:Int) < (r1_.2.length:Int))) (
          (spec_l17Rd_num [(0:Int), (5:Int), (1:Int), (2:Int), (3:Int)] r2_.2).bind fun r6_ =>
          rq (0 ≤ (0:Int) ∧ (0:Int) < r1_.2.length) <|
          some (r6_.2, r1_.1, (r1_.2.set (0:Int).toNat (r6_.1, (r1_.2.getD (0:Int).toNat (0, ([], ([], (0, []))))).2)))) (
          some (r2_.2, r1_.1, r1_.2))) (
        cond (r2_.1 == (3:Int)) (
          cond (decide ((0:Int) < (r1_.2.length:Int))) (
            rq (i64 ((r1_.2.length:Int) - (1:Int))) <|
            rq (0 ≤ ((r1_.2.length:Int) - (1:Int)) ∧ ((r1_.2.length:Int) - (1:Int)) < r1_.2.length) <|
            cond (decide ((0:Int) < ((r1_.2.getD ((r1_.2.length:Int) - (1:Int)).toNat (0, ([], ([], (0, []))))).2.1.length:Int))) (
              rq (i64 ((r1_.2.length:Int) - (1:Int))) <|
              rq (0 ≤ ((r1_.2.length:Int) - (1:Int)) ∧ ((r1_.2.length:Int) - (1:Int)) < r1_.2.length) <|
              (spec_l17Rd_num [(-1:Int), (5:Int), (1:Int), (0:Int)] r2_.2).bind fun r8_ =>
              rq (0 ≤ (0:Int) ∧ (0:Int) < ((r1_.2.set ((r1_.2.length:Int) - (1:Int)).toNat (r1_.2.getD ((r1_.2.length:Int) - (1:Int)).toNat (0, ([], ([], (0, [])))))).getD ((r1_.2.length:Int) - (1:Int)).toNat (0, ([], ([], (0, []))))).2.1.length) <|
              some (r8_.2, r1_.1, ((r1_.2.set ((r1_.2.length:Int) - (1:Int)).toNat (r1_.2.getD ((r1_.2.length:Int) - (1:Int)).toNat (0, ([], ([], (0, [])))))).set ((r1_.2.length:Int) - (1:Int)).toNat (((r1_.2.set ((r1_.2.length:Int) - (1:Int)).toNat (r1_.2.getD ((r1_.2.length:Int) - (1:Int)).toNat (0, ([], ([], (0, [])))))).getD ((r1_.2.length:Int) - (1:Int)).toNat (0, ([], ([], (0, []))))).1, ((((r1_.2.set ((r1_.2.length:Int) - (1:Int)).toNat (r1_.2.getD ((r1_.2.length:Int) - (1:Int)).toNat (0, ([], ([], (0, [])))))).getD ((r1_.2.length:Int) - (1:Int)).toNat (0, ([], ([], (0, []))))).2.1.set (0:Int).toNat r8_.1), ((r1_.2.set ((r1_.2.length:Int) - (1:Int)).toNat (r1_.2.getD ((r1_.2.length:Int) - (1:Int)).toNat (0, ([], ([], (0, [])))))).getD ((r1_.2.length:Int) - (1:Int)).toNat (0, ([], ([], (0, []))))).2.2))))) (
              some (r2_.2, r1_.1, (r1_.2.set ((r1_.2.length:Int) - (1:Int)).toNat (r1_.2.getD ((r1_.2.length:Int) - (1:Int)).toNat (0, ([], ([], (0, []))))))))) (
            some (r2_.2, r1_.1, r1_.2))) (
          cond (r2_.1 == (4:Int)) (
            cond (decide ((0:Int) < (r1_.2.length:Int))) (
              (spec_l17Rd_num [(1001:Int), (-1001:Int), (1000:Int)] r2_.2).bind fun r10_ =>
              rq (0 ≤ (0:Int) ∧ (0:Int) < r1_.2.length) <|
              some (r10_.2, r1_.1, (r1_.2.set (0:Int).toNat ((r1_.2.getD (0:Int).toNat (0, ([], ([], (0, []))))).1, ((r1_.2.getD (0:Int).toNat (0, ([], ([], (0, []))))).2.1, ((r1_.2.getD (0:Int).toNat (0, ([], ([], (0, []))))).2.2.1, (r10_.1, (r1_.2.getD (0:Int).toNat (0, ([], ([], (0, []))))).2.2.2.2))))))) (
              some (r2_.2, r1_.1, r1_.2))) (
            cond (r2_.1 == (5:Int)) (
              some (r2_.2, ([] : List Int), ([] : List (Int × (List Int) × (List Int) × Int × (List (List Int)))))) (
              some (r2_.2, r1_.1, r1_.2)))))))

/-- spec.l9Draw -/
noncomputable def spec_l9Draw__rsd_j1 : ((List Int) × Int) × (List Int) → Option (((List Int) × Int) × (List Int)) := fun (r_2, out1) =>
  (spec_l17Rd_pick (30:Int) r_2).bind fun r3_ =>
  cond (r3_.1 == (0:Int)) (
    cond (decide ((0:Int) < (out1.length:Int))) (
      (spec_l17Rd_num [(10:Int), (-10:Int), (9:Int), (9223372036854775807:Int)] r3_.2).bind fun r4_ =>
      rq (0 ≤ (0:Int) ∧ (0:Int) < out1.length) <|
      some (r4_.2, (out1.set (0:Int).toNat r4_.1))) (
      some (r3_.2, out1))) (
    cond (r3_.1 == (1:Int)) (
      rq (out1.length + [(1:Int)].length ≤ bound) <|
      some (r3_.2, (out1 ++ [(1:Int)]))) (
      some (r3_.2, out1)))

noncomputable def spec_l9Draw__rsd_l1 (o1 : List Int) : Int × ((List Int) × Int) × (List Int) → Option ((Int × ((List Int) × Int) × (List Int)) ⊕ (((List Int) × Int) × (List Int))) := fun (i, r_1, out) =>
  cond (decide (i < (o1.length:Int))) (
    (spec_l17Rd_num [(1:Int), (-1:Int), (2:Int), (0:Int), (-2:Int), (3:Int)] r_1).bind fun r2_ =>
    rq (out.length + [r2_.1].length ≤ bound) <|
    rq (i64 (i + (1:Int))) <|
    some (.inl ((i + (1:Int)), r2_.2, (out ++ [r2_.1])))) (
    up (spec_l9Draw__rsd_j1 (r_1, out)))

noncomputable def spec_l9Draw__rsd (r_ : (List Int) × Int) (o1 : List Int) (o2 : List (Int × (List Int) × (List Int) × Int × (List (List Int)))) : Option (((List Int) × Int) × (List Int)) :=
  loop (spec_l9Draw__rsd_l1 o1) ((0:Int), r_, ([] : List Int))

/-- spec.l6DrawCells -/
noncomputable def spec_l6DrawCells__rsd_j1 : ((List Int) × Int) × (List Int) → Option (((List Int) × Int) × (List Int)) := fun (r_2, out1) =>
  (spec_l17Rd_pick (40:Int) r_2).bind fun r3_ =>
  cond (r3_.1 == (0:Int)) (
    rq (out1.length + [(0:Int)].length ≤ bound) <|
    some (r3_.2, (out1 ++ [(0:Int)]))) (
    cond (r3_.1 == (1:Int)) (
      cond (decide ((0:Int) < (out1.length:Int))) (
        (spec_l17Rd_num [(-1:Int), (4:Int), (9223372036854775807:Int)] r3_.2).bind fun r4_ =>
        rq (0 ≤ (0:Int) ∧ (0:Int) < out1.length) <|
        some (r4_.2, (out1.set (0:Int).toNat r4_.1))) (
        some (r3_.2, out1))) (
      some (r3_.2, out1)))

noncomputable def spec_l6DrawCells__rsd_j2 (i : Int) (r_1 : (List Int) × Int) (out : List Int) : Int → Option ((Int × ((List Int) × Int) × (List Int)) ⊕ (((List Int) × Int) × (List Int))) := fun n1 =>
  (spec_l17Rd_pick n1 r_1).bind fun r2_ =>
  rq (out.length + [r2_.1].length ≤ bound) <|
  rq (i64 (i + (1:Int))) <|
  some (.inl ((i + (1:Int)), r2_.2, (out ++ [r2_.1])))

noncomputable def spec_l6DrawCells__rsd_l1 (o1 : List Int) : Int × ((List Int) × Int) × (List Int) → Option ((Int × ((List Int) × Int) × (List Int)) ⊕ (((List Int) × Int) × (List Int))) := fun (i, r_1, out) =>
  cond (decide (i < (o1.length:Int))) (
    rq (0 ≤ i ∧ i < o1.length) <|
    rq (i64 ((o1.getD i.toNat 0) + (1:Int))) <|
    cond (decide (((o1.getD i.toNat 0) + (1:Int)) < (1:Int))) (
      spec_l6DrawCells__rsd_j2 i r_1 out (1:Int)) (
      cond (decide ((4:Int) < ((o1.getD i.toNat 0) + (1:Int)))) (
        spec_l6DrawCells__rsd_j2 i r_1 out (1:Int)) (
        spec_l6DrawCells__rsd_j2 i r_1 out ((o1.getD i.toNat 0) + (1:Int))))) (
    up (spec_l6DrawCells__rsd_j1 (r_1, out)))

noncomputable def spec_l6DrawCells__rsd (r_ : (List Int) × Int) (o1 : List Int) (o2 : List (Int × (List Int) × (List Int) × Int × (List (List Int)))) : Option (((List Int) × Int) × (List Int)) :=
  loop (spec_l6DrawCells__rsd_l1 o1) ((0:Int), r_, ([] : List Int))

/-- spec.DrawObjectiveValue -/
noncomputable def spec_DrawObjectiveValue (code : List Int) : Option ((List Int) × (List Int) × (List Int) × (List (Int × (List Int) × (List Int) × Int × (List (List Int))))) :=
  (spec_l17Open code).bind fun r1_ =>
  (spec_l6Model r1_).bind fun r2_ =>
  (spec_l6Mutate r2_.2 r2_.1).bind fun r3_ =>
  (spec_l9Draw__rsd r3_.1 r3_.2.1 r3_.2.2).bind fun r4_ =>
  (spec_l6DrawCells__rsd r4_.1 r3_.2.1 r3_.2.2).bind fun r6_ =>
  some (r4_.2, r6_.2, r3_.2.1, r3_.2.2)

/-- laws.FnObjectiveValue -/
noncomputable def laws_FnObjectiveValue_j2 (r2_ : Int × Bool) (r4_ : Int × Bool) : Int × Bool → Option Bool := fun (i3, i4) =>
  cond r4_.2 (
    cond i4 (
      rq (i64 (0 - r2_.1)) <|
      cond (r4_.1 == (0 - r2_.1)) (
        some (i3 == (0:Int))) (
        some false)) (
      some false)) (
    some false)

noncomputable def laws_FnObjectiveValue_j1 (r1_ : (List Int) × (List Int) × (List Int) × (List (Int × (List Int) × (List Int) × Int × (List (List Int))))) (r2_ : Int × Bool) : (List Int) → Option Bool := fun i2 =>
  (impl_ObjectiveValue r1_.2.2 i2 r1_.2.1).bind fun r4_ =>
  rq (0 ≤ (r1_.2.1.length:Int) ∧ (r1_.2.1.length:Int) ≤ bound ∧ (r1_.2.1.length:Int) = (r1_.2.1.length:Int)) <|
  (impl_ObjectiveValue r1_.2.2 r1_.1 (List.replicate (r1_.2.1.length:Int).toNat 0)).bind fun r6_ =>
  laws_FnObjectiveValue_j2 r2_ r4_ (r6_.1, r6_.2)

noncomputable def laws_FnObjectiveValue_l1 (r1_ : (List Int) × (List Int) × (List Int) × (List (Int × (List Int) × (List Int) × Int × (List (List Int))))) (r2_ : Int × Bool) : Int × (List Int) → Option ((Int × (List Int)) ⊕ Bool) := fun (i, i1) =>
  cond (decide (i < (r1_.1.length:Int))) (
    rq (0 ≤ i ∧ i < r1_.1.length) <|
    rq (i64 (0 - (r1_.1.getD i.toNat 0))) <|
    rq (i1.length + [(0 - (r1_.1.getD i.toNat 0))].length ≤ bound) <|
    rq (i64 (i + (1:Int))) <|
    some (.inl ((i + (1:Int)), (i1 ++ [(0 - (r1_.1.getD i.toNat 0))])))) (
    up (laws_FnObjectiveValue_j1 r1_ r2_ i1))

noncomputable def laws_FnObjectiveValue (a0 : List Int) : Option Bool :=
  cond (decide ((1048576:Int) < (a0.length:Int))) (
    some true) (
    (spec_DrawObjectiveValue a0).bind fun r1_ =>
    (impl_ObjectiveValue r1_.2.2 r1_.1 r1_.2.1).bind fun r2_ =>
    (spec_ObjectiveValue r1_.2.2 r1_.1 r1_.2.1).bind fun r3_ =>
    cond (r2_.2 != r3_.2) (
      cond (r2_.2 == r3_.2) (
        some (r2_.1 == r3_.1)) (
        some false)) (
      cond (r2_.1 != r3_.1) (
        cond (r2_.2 == r3_.2) (
          some (r2_.1 == r3_.1)) (
          some false)) (
        cond (!r2_.2) (
          cond (r2_.2 == r3_.2) (
            some (r2_.1 == r3_.1)) (
            some false)) (
          loop (laws_FnObjectiveValue_l1 r1_ r2_) ((0:Int), ([] : List Int))))))

/-- laws.FnExactMinimalCore -/
noncomputable def laws_FnExactMinimalCore (a0 : List ((List (Int × Int)) × Int)) : Option Bool :=
  (laws_szConstraintS a0 (1048576:Int)).bind fun r1_ =>
  cond (decide (r1_ < (0:Int))) (
    some true) (
    (laws_toConstraintS a0).bind fun r2_ =>
    (spec_MinimalCore r2_).bind fun r3_ =>
    (laws_toConstraintS a0).bind fun r4_ =>
    (impl_MinimalCore r4_).bind fun r5_ =>
    (laws_eqIntS r5_.2 r3_.2).bind fun r6_ =>
    cond (!r6_) (
      some false) (
      cond (r5_.1 != r3_.1) (
        some false) (
        (laws_toConstraintS a0).bind fun r7_ =>
        (laws_eqConstraintS r4_ r7_).bind fun r8_ =>
        cond (!r8_) (
          some false) (
          (laws_markConstraintS (1:Int) r4_).bind fun r9_ =>
          cond (decide (r9_.1 < (0:Int))) (
            some false) (
            (laws_eqIntS r5_.2 r3_.2).bind fun r10_ =>
            cond (!r10_) (
              some false) (
              cond (r5_.1 != r3_.1) (
                some false) (
                (laws_markIntS (1:Int) r5_.2).bind fun r11_ =>
                (laws_heldIntS r11_.2 (1:Int)).bind fun r12_ =>
                cond (decide (r12_ < (0:Int))) (
                  some false) (
                  cond (r12_ != r11_.1) (
                    some false) (
                    (laws_toConstraintS a0).bind fun r13_ =>
                    (impl_MinimalCore r13_).bind fun r14_ =>
                    (laws_eqIntS r14_.2 r3_.2).bind fun r15_ =>
                    cond (!r15_) (
                      some false) (
                      cond (r14_.1 != r3_.1) (
                        some false) (
                        (laws_heldIntS r11_.2 (1:Int)).bind fun r16_ =>
                        cond (decide (r16_ < (0:Int))) (
                          some false) (
                          cond (r16_ != r11_.1) (
                            some false) (
                            some true)))))))))))))

end Go.AE.Y
