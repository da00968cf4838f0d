/-
  Models of the functions: what each computes, as a Lean function into Option. Definitions alone.
-/
import Derived.Test.YtaeeiddjpigemaaGreatAEx3
namespace Go.AE.Y
open Go Go.AE
set_option linter.unusedVariables false

abbrev y0_ : Ty := (.int .i64)
abbrev y1_ : Ty := (.pair (.sl (.int .u8)) y0_)
abbrev D1_ : Type := (List Int) × Int
abbrev y2_ : Ty := (.pair y0_ y0_)
abbrev D2_ : Type := Int × Int
abbrev y3_ : Ty := (.pair (.sl y2_) y0_)
abbrev D3_ : Type := (List (Int × Int)) × Int
abbrev y4_ : Ty := (.pair y0_ y3_)
abbrev D4_ : Type := Int × (List (Int × Int)) × Int
abbrev y5_ : Ty := (.pair y0_ y4_)
abbrev D5_ : Type := Int × Int × (List (Int × Int)) × Int
abbrev y6_ : Ty := (.pair y0_ y5_)
abbrev D6_ : Type := Int × Int × Int × (List (Int × Int)) × Int

/-- spec.l17Open -/
noncomputable def spec_l17Open_j1 : (List Int) → Option D1_ := fun code1 =>
 some (code1, (0:Int))

noncomputable def spec_l17Open (code : List Int) : Option D1_ :=
 cond (decide ((2000:Int) < (code.length:Int))) (
  rq (0 ≤ (2000:Int) ∧ (2000:Int) ≤ code.length) <|
  spec_l17Open_j1 (code.take (2000:Int).toNat)) (
  spec_l17Open_j1 code)

/-- (*spec.l17Rd).pick -/
noncomputable def spec_l17Rd_pick (a1 : Int) (o0 : (List Int) × Int) : Option (Int × D1_) :=
 rq (i64 (o0.2 + (1:Int))) <|
 cond (decide (a1 < (1:Int))) (
  some ((0:Int), (o0.1, (o0.2 + (1:Int))))) (
  cond ((o0.1.length:Int) == (0:Int)) (
   some ((0:Int), (o0.1, (o0.2 + (1:Int))))) (
   rq (i64 ((o0.2 + (1:Int)) - (1:Int))) <|
   cond (decide (((o0.2 + (1:Int)) - (1:Int)) < (o0.1.length:Int))) (
    rq (0 ≤ ((o0.2 + (1:Int)) - (1:Int)) ∧ ((o0.2 + (1:Int)) - (1:Int)) < o0.1.length) <|
    rq (i64 (o0.1.getD ((o0.2 + (1:Int)) - (1:Int)).toNat 0)) <|
    rq (1 ≤ a1 ∧ 0 ≤ (o0.1.getD ((o0.2 + (1:Int)) - (1:Int)).toNat 0)) <|
    some (((o0.1.getD ((o0.2 + (1:Int)) - (1:Int)).toNat 0) % a1), (o0.1, (o0.2 + (1:Int))))) (
    rq (1 ≤ (o0.1.length:Int) ∧ 0 ≤ ((o0.2 + (1:Int)) - (1:Int))) <|
    rq (0 ≤ (((o0.2 + (1:Int)) - (1:Int)) % (o0.1.length:Int)) ∧ (((o0.2 + (1:Int)) - (1:Int)) % (o0.1.length:Int)) < o0.1.length) <|
    rq (i64 (o0.1.getD (((o0.2 + (1:Int)) - (1:Int)) % (o0.1.length:Int)).toNat 0)) <|
    rq (i64 ((o0.1.getD (((o0.2 + (1:Int)) - (1:Int)) % (o0.1.length:Int)).toNat 0) * (131:Int))) <|
    rq (i64 (((o0.2 + (1:Int)) - (1:Int)) * (7:Int))) <|
    rq (i64 ((((o0.2 + (1:Int)) - (1:Int)) * (7:Int)) + (3:Int))) <|
    rq (1 ≤ (o0.1.length:Int) ∧ 0 ≤ ((((o0.2 + (1:Int)) - (1:Int)) * (7:Int)) + (3:Int))) <|
    rq (0 ≤ (((((o0.2 + (1:Int)) - (1:Int)) * (7:Int)) + (3:Int)) % (o0.1.length:Int)) ∧ (((((o0.2 + (1:Int)) - (1:Int)) * (7:Int)) + (3:Int)) % (o0.1.length:Int)) < o0.1.length) <|
    rq (i64 (o0.1.getD (((((o0.2 + (1:Int)) - (1:Int)) * (7:Int)) + (3:Int)) % (o0.1.length:Int)).toNat 0)) <|
    rq (i64 ((o0.1.getD (((((o0.2 + (1:Int)) - (1:Int)) * (7:Int)) + (3:Int)) % (o0.1.length:Int)).toNat 0) * (1117:Int))) <|
    rq (i64 (((o0.1.getD (((o0.2 + (1:Int)) - (1:Int)) % (o0.1.length:Int)).toNat 0) * (131:Int)) + ((o0.1.getD (((((o0.2 + (1:Int)) - (1:Int)) * (7:Int)) + (3:Int)) % (o0.1.length:Int)).toNat 0) * (1117:Int)))) <|
    rq (i64 (((o0.2 + (1:Int)) - (1:Int)) * (29:Int))) <|
    rq (i64 ((((o0.1.getD (((o0.2 + (1:Int)) - (1:Int)) % (o0.1.length:Int)).toNat 0) * (131:Int)) + ((o0.1.getD (((((o0.2 + (1:Int)) - (1:Int)) * (7:Int)) + (3:Int)) % (o0.1.length:Int)).toNat 0) * (1117:Int))) + (((o0.2 + (1:Int)) - (1:Int)) * (29:Int)))) <|
    rq (1 ≤ (o0.1.length:Int) ∧ 0 ≤ ((o0.2 + (1:Int)) - (1:Int))) <|
    rq (i64 ((((o0.2 + (1:Int)) - (1:Int)) / (o0.1.length:Int)) * (53:Int))) <|
    rq (i64 (((((o0.1.getD (((o0.2 + (1:Int)) - (1:Int)) % (o0.1.length:Int)).toNat 0) * (131:Int)) + ((o0.1.getD (((((o0.2 + (1:Int)) - (1:Int)) * (7:Int)) + (3:Int)) % (o0.1.length:Int)).toNat 0) * (1117:Int))) + (((o0.2 + (1:Int)) - (1:Int)) * (29:Int))) + ((((o0.2 + (1:Int)) - (1:Int)) / (o0.1.length:Int)) * (53:Int)))) <|
    rq (1 ≤ (64:Int) ∧ 0 ≤ (((((o0.1.getD (((o0.2 + (1:Int)) - (1:Int)) % (o0.1.length:Int)).toNat 0) * (131:Int)) + ((o0.1.getD (((((o0.2 + (1:Int)) - (1:Int)) * (7:Int)) + (3:Int)) % (o0.1.length:Int)).toNat 0) * (1117:Int))) + (((o0.2 + (1:Int)) - (1:Int)) * (29:Int))) + ((((o0.2 + (1:Int)) - (1:Int)) / (o0.1.length:Int)) * (53:Int)))) <|
    rq (0 ≤ (((((o0.1.getD (((o0.2 + (1:Int)) - (1:Int)) % (o0.1.length:Int)).toNat 0) * (131:Int)) + ((o0.1.getD (((((o0.2 + (1:Int)) - (1:Int)) * (7:Int)) + (3:Int)) % (o0.1.length:Int)).toNat 0) * (1117:Int))) + (((o0.2 + (1:Int)) - (1:Int)) * (29:Int))) + ((((o0.2 + (1:Int)) - (1:Int)) / (o0.1.length:Int)) * (53:Int))) ∧ 0 ≤ ((((((o0.1.getD (((o0.2 + (1:Int)) - (1:Int)) % (o0.1.length:Int)).toNat 0) * (131:Int)) + ((o0.1.getD (((((o0.2 + (1:Int)) - (1:Int)) * (7:Int)) + (3:Int)) % (o0.1.length:Int)).toNat 0) * (1117:Int))) + (((o0.2 + (1:Int)) - (1:Int)) * (29:Int))) + ((((o0.2 + (1:Int)) - (1:Int)) / (o0.1.length:Int)) * (53:Int))) / (64:Int))) <|
    rq (1 ≤ a1 ∧ 0 ≤ (((((((o0.1.getD (((o0.2 + (1:Int)) - (1:Int)) % (o0.1.length:Int)).toNat 0) * (131:Int)) + ((o0.1.getD (((((o0.2 + (1:Int)) - (1:Int)) * (7:Int)) + (3:Int)) % (o0.1.length:Int)).toNat 0) * (1117:Int))) + (((o0.2 + (1:Int)) - (1:Int)) * (29:Int))) + ((((o0.2 + (1:Int)) - (1:Int)) / (o0.1.length:Int)) * (53:Int))).toNat ^^^ ((((((o0.1.getD (((o0.2 + (1:Int)) - (1:Int)) % (o0.1.length:Int)).toNat 0) * (131:Int)) + ((o0.1.getD (((((o0.2 + (1:Int)) - (1:Int)) * (7:Int)) + (3:Int)) % (o0.1.length:Int)).toNat 0) * (1117:Int))) + (((o0.2 + (1:Int)) - (1:Int)) * (29:Int))) + ((((o0.2 + (1:Int)) - (1:Int)) / (o0.1.length:Int)) * (53:Int))) / (64:Int)).toNat : Nat) : Int)) <|
    some (((((((((o0.1.getD (((o0.2 + (1:Int)) - (1:Int)) % (o0.1.length:Int)).toNat 0) * (131:Int)) + ((o0.1.getD (((((o0.2 + (1:Int)) - (1:Int)) * (7:Int)) + (3:Int)) % (o0.1.length:Int)).toNat 0) * (1117:Int))) + (((o0.2 + (1:Int)) - (1:Int)) * (29:Int))) + ((((o0.2 + (1:Int)) - (1:Int)) / (o0.1.length:Int)) * (53:Int))).toNat ^^^ ((((((o0.1.getD (((o0.2 + (1:Int)) - (1:Int)) % (o0.1.length:Int)).toNat 0) * (131:Int)) + ((o0.1.getD (((((o0.2 + (1:Int)) - (1:Int)) * (7:Int)) + (3:Int)) % (o0.1.length:Int)).toNat 0) * (1117:Int))) + (((o0.2 + (1:Int)) - (1:Int)) * (29:Int))) + ((((o0.2 + (1:Int)) - (1:Int)) / (o0.1.length:Int)) * (53:Int))) / (64:Int)).toNat : Nat) : Int) % a1), (o0.1, (o0.2 + (1:Int)))))))

/-- (*spec.l17Rd).num -/
noncomputable def spec_l17Rd_num (list_ : List Int) (r_ : (List Int) × Int) : Option (Int × D1_) :=
 (spec_l17Rd_pick (list_.length:Int) r_).bind fun r1_ =>
 rq (0 ≤ r1_.1 ∧ r1_.1 < list_.length) <|
 some ((list_.getD r1_.1.toNat 0), r1_.2)

/-- spec.l1Total -/
noncomputable def spec_l1Total_l1 (c_ : (List D2_) × Int) : Int × Int → Option ((Int × Int) ⊕ Int) := fun (n, i) =>
 cond (decide (i < (c_.1.length:Int))) (
  rq (0 ≤ i ∧ i < c_.1.length) <|
  rq (i64 (n + (c_.1.getD i.toNat (0, 0)).1)) <|
  rq (i64 (i + (1:Int))) <|
  some (.inl ((n + (c_.1.getD i.toNat (0, 0)).1), (i + (1:Int))))) (
  some (.inr n))

noncomputable def spec_l1Total (c_ : (List D2_) × Int) : Option Int :=
 loop (spec_l1Total_l1 c_) ((0:Int), (0:Int))

/-- spec.l1Draw -/
noncomputable def spec_l1Draw_j1 : D1_ × (List D2_) → Option (D1_ × Int × (List D2_)) := fun (r_4, c_01) =>
 (spec_l1Total (c_01, (0:Int))).bind fun r7_ =>
 (spec_l17Rd_num [(1:Int), (2:Int), (1:Int), (3:Int), (0:Int)] r_4).bind fun r8_ =>
 (spec_l17Rd_pick (4:Int) r8_.2).bind fun r9_ =>
 cond (r9_.1 == (0:Int)) (
  rq (i64 (r7_ + (2:Int))) <|
  (spec_l17Rd_pick (r7_ + (2:Int)) r9_.2).bind fun r10_ =>
  some (r10_.2, r10_.1, c_01)) (
  some (r9_.2, r8_.1, c_01))

noncomputable def spec_l1Draw_j2 (v : Int) (c_0 : List D2_) : D1_ × D2_ → Option ((Int × D1_ × (List D2_)) ⊕ (D1_ × Int × (List D2_))) := fun (r_3, t_1) =>
 rq (c_0.length + [t_1].length ≤ bound) <|
 rq (i64 (v + (1:Int))) <|
 some (.inl ((v + (1:Int)), r_3, (c_0 ++ [t_1])))

noncomputable def spec_l1Draw_l1 (most : Int) : Int × D1_ × (List D2_) → Option ((Int × D1_ × (List D2_)) ⊕ (D1_ × Int × (List D2_))) := fun (v, r_2, c_0) =>
 cond (decide (v ≤ most)) (
  (spec_l17Rd_pick (2:Int) r_2).bind fun r4_ =>
  cond (r4_.1 == (0:Int)) (
   (spec_l17Rd_num [(1:Int), (1:Int), (2:Int), (3:Int), (1:Int), (5:Int), (4:Int)] r4_.2).bind fun r5_ =>
   (spec_l17Rd_pick (2:Int) r5_.2).bind fun r6_ =>
   cond (r6_.1 == (0:Int)) (
    rq (i64 (0 - v)) <|
    spec_l1Draw_j2 v c_0 (r6_.2, (r5_.1, (0 - v)))) (
    spec_l1Draw_j2 v c_0 (r6_.2, (r5_.1, v)))) (
   rq (i64 (v + (1:Int))) <|
   some (.inl ((v + (1:Int)), r4_.2, c_0)))) (
  up (spec_l1Draw_j1 (r_2, c_0)))

noncomputable def spec_l1Draw (most : Int) (r_ : (List Int) × Int) : Option (D1_ × Int × (List D2_)) :=
 loop (spec_l1Draw_l1 most) ((1:Int), r_, ([] : List D2_))

/-- spec.l3Problem -/
noncomputable def spec_l3Problem_l1 (r1_ : Int × D1_) : Int × D1_ × (List D3_) → Option ((Int × D1_ × (List D3_)) ⊕ (D1_ × (List D3_))) := fun (i, r_1, out) =>
 cond (decide ((0:Int) < i)) (
  (spec_l1Draw r1_.1 r_1).bind fun r4_ =>
  rq (out.length + [(r4_.2.2, r4_.2.1)].length ≤ bound) <|
  rq (i64 (i - (1:Int))) <|
  some (.inl ((i - (1:Int)), r4_.1, (out ++ [(r4_.2.2, r4_.2.1)])))) (
  some (.inr (r_1, out)))

noncomputable def spec_l3Problem (r_ : (List Int) × Int) : Option (D1_ × (List D3_)) :=
 (spec_l17Rd_num [(4:Int), (5:Int), (3:Int), (6:Int)] r_).bind fun r1_ =>
 (spec_l17Rd_num [(4:Int), (6:Int), (3:Int), (8:Int), (2:Int), (1:Int), (0:Int)] r1_.2).bind fun r2_ =>
 loop (spec_l3Problem_l1 r1_) (r2_.1, r2_.2, ([] : List D3_))

/-- spec.l5Hard -/
noncomputable def spec_l5Hard_l1 : Int × D1_ × (List D3_) → Option ((Int × D1_ × (List D3_)) ⊕ (D1_ × (List D3_))) := fun (i, r_1, list_) =>
 cond (decide ((0:Int) < i)) (
  (spec_l1Draw (4:Int) r_1).bind fun r6_ =>
  (spec_l1Total (r6_.2.2, r6_.2.1)).bind fun r7_ =>
  rq (1 ≤ (2:Int) ∧ 0 ≤ r7_) <|
  rq (i64 ((r7_ / (2:Int)) + (1:Int))) <|
  (spec_l17Rd_pick ((r7_ / (2:Int)) + (1:Int)) r6_.1).bind fun r8_ =>
  rq (i64 (r7_ - r8_.1)) <|
  rq (list_.length + [(r6_.2.2, (r7_ - r8_.1))].length ≤ bound) <|
  rq (i64 (i - (1:Int))) <|
  some (.inl ((i - (1:Int)), r8_.2, (list_ ++ [(r6_.2.2, (r7_ - r8_.1))])))) (
  some (.inr (r_1, list_)))

noncomputable def spec_l5Hard (r_ : (List Int) × Int) : Option (D1_ × (List D3_)) :=
 (spec_l3Problem r_).bind fun r1_ =>
 (spec_l17Rd_num [(2:Int), (4:Int), (3:Int), (6:Int), (0:Int)] r1_.1).bind fun r2_ =>
 loop (spec_l5Hard_l1) (r2_.1, r2_.2, r1_.2)

/-- spec.l11Closed -/
noncomputable def spec_l11Closed (r_ : (List Int) × Int) : Option (D1_ × (List D3_)) :=
 (spec_l5Hard r_).bind fun r1_ =>
 (spec_l17Rd_pick (3:Int) r1_.1).bind fun r2_ =>
 cond (decide ((0:Int) < r2_.1)) (
  (spec_l17Rd_pick (4:Int) r2_.2).bind fun r3_ =>
  rq (i64 ((1:Int) + r3_.1)) <|
  rq (r1_.2.length + [([((1:Int), ((1:Int) + r3_.1))], (1:Int))].length ≤ bound) <|
  rq (i64 (0 - ((1:Int) + r3_.1))) <|
  rq ([([((1:Int), (0 - ((1:Int) + r3_.1)))], (1:Int))].length + (r1_.2 ++ [([((1:Int), ((1:Int) + r3_.1))], (1:Int))]).length ≤ bound) <|
  some (r3_.2, ([([((1:Int), (0 - ((1:Int) + r3_.1)))], (1:Int))] ++ (r1_.2 ++ [([((1:Int), ((1:Int) + r3_.1))], (1:Int))])))) (
  some (r2_.2, r1_.2))

/-- spec.l1Copy -/
noncomputable def spec_l1Copy (c_ : (List D2_) × Int) : Option (Int × (List D2_)) :=
 rq (([] : List D2_).length + c_.1.length ≤ bound) <|
 some (c_.2, (([] : List D2_) ++ c_.1))

/-- spec.l1Mutate -/
noncomputable def spec_l1Mutate (c_ : (List D2_) × Int) (r_ : (List Int) × Int) : Option (D1_ × Int × (List D2_)) :=
 (spec_l1Copy c_).bind fun r1_ =>
 (spec_l17Rd_pick (40:Int) r_).bind fun r2_ =>
 cond (r2_.1 == (0:Int)) (
  (spec_l17Rd_num [(-1:Int), (20001:Int), (9223372036854775807:Int)] r2_.2).bind fun r3_ =>
  some (r3_.2, r3_.1, r1_.2)) (
  cond (r2_.1 == (1:Int)) (
   cond (decide ((0:Int) < (r1_.2.length:Int))) (
    (spec_l17Rd_num [(0:Int), (-1:Int), (1001:Int)] r2_.2).bind fun r5_ =>
    rq (0 ≤ (0:Int) ∧ (0:Int) < r1_.2.length) <|
    some (r5_.2, r1_.1, (r1_.2.set (0:Int).toNat (r5_.1, (r1_.2.getD (0:Int).toNat (0, 0)).2)))) (
    some (r2_.2, r1_.1, r1_.2))) (
   cond (r2_.1 == (2:Int)) (
    cond (decide ((0:Int) < (r1_.2.length:Int))) (
     rq (i64 ((r1_.2.length:Int) - (1:Int))) <|
     (spec_l17Rd_num [(0:Int), (13:Int), (-13:Int), (1:Int), (-9223372036854775808:Int)] r2_.2).bind fun r7_ =>
     rq (0 ≤ ((r1_.2.length:Int) - (1:Int)) ∧ ((r1_.2.length:Int) - (1:Int)) < r1_.2.length) <|
     some (r7_.2, r1_.1, (r1_.2.set ((r1_.2.length:Int) - (1:Int)).toNat ((r1_.2.getD ((r1_.2.length:Int) - (1:Int)).toNat (0, 0)).1, r7_.1)))) (
     some (r2_.2, r1_.1, r1_.2))) (
    cond (r2_.1 == (3:Int)) (
     rq (r1_.2.length + [((1:Int), (1:Int))].length ≤ bound) <|
     some (r2_.2, r1_.1, (r1_.2 ++ [((1:Int), (1:Int))]))) (
     some (r2_.2, r1_.1, r1_.2)))))

/-- spec.l3Mutate -/
noncomputable def spec_l3Mutate (list_ : List D3_) (r_ : (List Int) × Int) : Option (D1_ × (List D3_)) :=
 rq (([] : List D3_).length + list_.length ≤ bound) <|
 cond (decide ((0:Int) < ((([] : List D3_) ++ list_).length:Int))) (
  (spec_l17Rd_pick (20:Int) r_).bind fun r1_ =>
  cond (r1_.1 == (0:Int)) (
   (spec_l17Rd_pick ((([] : List D3_) ++ list_).length:Int) r1_.2).bind fun r2_ =>
   rq (0 ≤ r2_.1 ∧ r2_.1 < (([] : List D3_) ++ list_).length) <|
   (spec_l1Mutate ((([] : List D3_) ++ list_).getD r2_.1.toNat ([], 0)) r2_.2).bind fun r3_ =>
   (spec_l1Mutate (r3_.2.2, r3_.2.1) r3_.1).bind fun r4_ =>
   (spec_l1Mutate (r4_.2.2, r4_.2.1) r4_.1).bind fun r5_ =>
   rq (0 ≤ r2_.1 ∧ r2_.1 < (([] : List D3_) ++ list_).length) <|
   some (r5_.1, ((([] : List D3_) ++ list_).set r2_.1.toNat (r5_.2.2, r5_.2.1)))) (
   some (r1_.2, (([] : List D3_) ++ list_)))) (
  some (r_, (([] : List D3_) ++ list_)))

/-- spec.DrawMinimalCore -/
noncomputable def spec_DrawMinimalCore (code : List Int) : Option (List D3_) :=
 (spec_l17Open code).bind fun r1_ =>
 (spec_l11Closed r1_).bind fun r2_ =>
 (spec_l3Mutate r2_.2 r2_.1).bind fun r3_ =>
 some r3_.2

/-- impl.within -/
noncomputable def impl_within (n : Int) (low : Int) (high : Int) : Option Bool :=
 cond (decide (low ≤ n)) (
  some (decide (n ≤ high))) (
  some false)

/-- impl.isLiteral -/
noncomputable def impl_isLiteral (l : Int) : Option Bool :=
 cond (l != (0:Int)) (
  (impl_within l (-12:Int) (12:Int)).bind fun r1_ =>
  some r1_) (
  some false)

/-- impl.variableOf -/
noncomputable def impl_variableOf (l : Int) : Option Int :=
 rq (i64 (0 - l)) <|
 some (max l (0 - l))

/-- impl.ConstraintValid -/
noncomputable def impl_ConstraintValid_l1 (c_ : (List D2_) × Int) : Int × Int → Option ((Int × Int) ⊕ Bool) := fun (before, i) =>
 cond (decide (i < (c_.1.length:Int))) (
  rq (0 ≤ i ∧ i < c_.1.length) <|
  (impl_isLiteral (c_.1.getD i.toNat (0, 0)).2).bind fun r1_ =>
  cond (!r1_) (
   some (.inr false)) (
   (impl_variableOf (c_.1.getD i.toNat (0, 0)).2).bind fun r2_ =>
   cond (decide (r2_ ≤ before)) (
    some (.inr false)) (
    (impl_within (c_.1.getD i.toNat (0, 0)).1 (1:Int) (1000:Int)).bind fun r3_ =>
    cond (!r3_) (
     some (.inr false)) (
     (impl_variableOf (c_.1.getD i.toNat (0, 0)).2).bind fun r4_ =>
     rq (i64 (i + (1:Int))) <|
     some (.inl (r4_, (i + (1:Int)))))))) (
  (impl_within c_.2 (0:Int) (20000:Int)).bind fun r5_ =>
  some (.inr r5_))

noncomputable def impl_ConstraintValid (c_ : (List D2_) × Int) : Option Bool :=
 loop (impl_ConstraintValid_l1 c_) ((0:Int), (0:Int))

/-- impl.allValid$1 -/
noncomputable def impl_allValid_1 (c_ : (List D2_) × Int) : Option Bool :=
 (impl_ConstraintValid c_).bind fun r1_ =>
 some (!r1_)

/-- slices.IndexFunc[[]impl.Constraint,impl.Constraint] -/
noncomputable def slices_IndexFunc_impl_Constraint__impl_allValid_1_l1 (s_ : List D3_) : Int → Option (Int ⊕ Int) := fun i =>
 cond (decide (i < (s_.length:Int))) (
  rq (0 ≤ i ∧ i < s_.length) <|
  (impl_allValid_1 (s_.getD i.toNat ([], 0))).bind fun r1_ =>
  cond r1_ (
   some (.inr i)) (
   rq (i64 (i + (1:Int))) <|
   some (.inl (i + (1:Int))))) (
  some (.inr (-1:Int)))

noncomputable def slices_IndexFunc_impl_Constraint__impl_allValid_1 (s_ : List D3_) : Option Int :=
 loop (slices_IndexFunc_impl_Constraint__impl_allValid_1_l1 s_) (0:Int)

/-- slices.ContainsFunc[[]impl.Constraint,impl.Constraint] -/
noncomputable def slices_ContainsFunc_impl_Constraint__impl_allValid_1 (s_ : List D3_) : Option Bool :=
 (slices_IndexFunc_impl_Constraint__impl_allValid_1 s_).bind fun r1_ =>
 some (decide ((0:Int) ≤ r1_))

/-- impl.allValid -/
noncomputable def impl_allValid (list_ : List D3_) : Option Bool :=
 (slices_ContainsFunc_impl_Constraint__impl_allValid_1 list_).bind fun r1_ =>
 some (!r1_)

/-- impl.ProblemValid -/
noncomputable def impl_ProblemValid (list_ : List D3_) : Option Bool :=
 cond (decide ((list_.length:Int) ≤ (400:Int))) (
  (impl_allValid list_).bind fun r1_ =>
  some r1_) (
  some false)

/-- impl.numbered -/
noncomputable def impl_numbered_l1 (n : Int) : Int × (List Bool) → Option ((Int × (List Bool)) ⊕ (List Bool)) := fun (i, out) =>
 cond (decide (i < ((List.replicate (12:Int).toNat false).length:Int))) (
  rq (i64 ((11:Int) - i)) <|
  rq ((0 ≤ ((11:Int) - i) ∧ ((11:Int) - i) ≤ 62) ∧ 0 ≤ n) <|
  rq (0 ≤ (n / 2 ^ ((11:Int) - i).toNat) ∧ 0 ≤ (1:Int)) <|
  rq (0 ≤ i ∧ i < out.length) <|
  rq (i64 (i + (1:Int))) <|
  some (.inl ((i + (1:Int)), (out.set i.toNat ((((n / 2 ^ ((11:Int) - i).toNat).toNat &&& (1:Int).toNat : Nat) : Int) == (1:Int)))))) (
  some (.inr out))

noncomputable def impl_numbered (n : Int) : Option (List Bool) :=
 rq (0 ≤ (12:Int) ∧ (12:Int) ≤ bound ∧ (12:Int) = (12:Int)) <|
 loop (impl_numbered_l1 n) ((0:Int), (List.replicate (12:Int).toNat false))

/-- impl.holds -/
noncomputable def impl_holds (l : Int) (values : List Bool) : Option Bool :=
 (impl_variableOf l).bind fun r1_ =>
 rq (i64 (r1_ - (1:Int))) <|
 rq (0 ≤ (r1_ - (1:Int)) ∧ (r1_ - (1:Int)) < values.length) <|
 some ((values.getD (r1_ - (1:Int)).toNat false) == (decide ((0:Int) < l)))

/-- (impl.Constraint).holds -/
noncomputable def impl_Constraint_holds_l1 (c_ : (List D2_) × Int) (values : List Bool) : Int × Int → Option ((Int × Int) ⊕ Bool) := fun (sum, i) =>
 cond (decide (i < (c_.1.length:Int))) (
  rq (0 ≤ i ∧ i < c_.1.length) <|
  (impl_holds (c_.1.getD i.toNat (0, 0)).2 values).bind fun r1_ =>
  cond r1_ (
   rq (i64 (sum + (c_.1.getD i.toNat (0, 0)).1)) <|
   rq (i64 (i + (1:Int))) <|
   some (.inl ((sum + (c_.1.getD i.toNat (0, 0)).1), (i + (1:Int))))) (
   rq (i64 (i + (1:Int))) <|
   some (.inl (sum, (i + (1:Int)))))) (
  some (.inr (decide (c_.2 ≤ sum))))

noncomputable def impl_Constraint_holds (c_ : (List D2_) × Int) (values : List Bool) : Option Bool :=
 loop (impl_Constraint_holds_l1 c_ values) ((0:Int), (0:Int))

/-- impl.satisfies$1 -/
noncomputable def impl_satisfies_1 (c_ : (List D2_) × Int) (o0 : List Bool) : Option Bool :=
 (impl_Constraint_holds c_ o0).bind fun r1_ =>
 some (!r1_)

/-- slices.IndexFunc[[]impl.Constraint,impl.Constraint] -/
noncomputable def slices_IndexFunc_impl_Constraint__impl_satisfies_1_l1 (s_ : List D3_) (o0 : List Bool) : Int → Option (Int ⊕ Int) := fun i =>
 cond (decide (i < (s_.length:Int))) (
  rq (0 ≤ i ∧ i < s_.length) <|
  (impl_satisfies_1 (s_.getD i.toNat ([], 0)) o0).bind fun r1_ =>
  cond r1_ (
   some (.inr i)) (
   rq (i64 (i + (1:Int))) <|
   some (.inl (i + (1:Int))))) (
  some (.inr (-1:Int)))

noncomputable def slices_IndexFunc_impl_Constraint__impl_satisfies_1 (s_ : List D3_) (o0 : List Bool) : Option Int :=
 loop (slices_IndexFunc_impl_Constraint__impl_satisfies_1_l1 s_ o0) (0:Int)

/-- slices.ContainsFunc[[]impl.Constraint,impl.Constraint] -/
noncomputable def slices_ContainsFunc_impl_Constraint__impl_satisfies_1 (s_ : List D3_) (o0 : List Bool) : Option Bool :=
 (slices_IndexFunc_impl_Constraint__impl_satisfies_1 s_ o0).bind fun r1_ =>
 some (decide ((0:Int) ≤ r1_))

/-- impl.satisfies -/
noncomputable def impl_satisfies (list_ : List D3_) (values : List Bool) : Option Bool :=
 (slices_ContainsFunc_impl_Constraint__impl_satisfies_1 list_ values).bind fun r1_ =>
 some (!r1_)

/-- impl.solvable -/
noncomputable def impl_solvable_l1 (list_ : List D3_) : Int → Option (Int ⊕ Bool) := fun i =>
 cond (decide (i < (4096:Int))) (
  (impl_numbered i).bind fun r1_ =>
  (impl_satisfies list_ r1_).bind fun r2_ =>
  cond r2_ (
   some (.inr true)) (
   rq (i64 (i + (1:Int))) <|
   some (.inl (i + (1:Int))))) (
  some (.inr false))

noncomputable def impl_solvable (list_ : List D3_) : Option Bool :=
 loop (impl_solvable_l1 list_) (0:Int)

/-- impl.indices -/
noncomputable def impl_indices_l1 (count : Int) : Int × (List Int) → Option ((Int × (List Int)) ⊕ (List Int)) := fun (i, out) =>
 cond (decide (i < count)) (
  rq (out.length + [i].length ≤ bound) <|
  rq (i64 (i + (1:Int))) <|
  some (.inl ((i + (1:Int)), (out ++ [i])))) (
  some (.inr out))

noncomputable def impl_indices (count : Int) : Option (List Int) :=
 loop (impl_indices_l1 count) ((0:Int), ([] : List Int))

/-- slices.Clone[[]int,int] -/
noncomputable def slices_Clone_int (s_ : List Int) : Option (List Int) :=
 nt (s_ = []) (
  some ([] : List Int)) (
  rq (([] : List Int).length + s_.length ≤ bound) <|
  some (([] : List Int) ++ s_))

/-- impl.without$1 -/
noncomputable def impl_without_1 (n : Int) (o0 : Int) : Option Bool :=
 some (n == o0)

/-- slices.IndexFunc[[]int,int] -/
noncomputable def slices_IndexFunc_int__impl_without_1_l1 (s_ : List Int) (o0 : Int) : Int → Option (Int ⊕ Int) := fun i =>
 cond (decide (i < (s_.length:Int))) (
  rq (0 ≤ i ∧ i < s_.length) <|
  (impl_without_1 (s_.getD i.toNat 0) o0).bind fun r1_ =>
  cond r1_ (
   some (.inr i)) (
   rq (i64 (i + (1:Int))) <|
   some (.inl (i + (1:Int))))) (
  some (.inr (-1:Int)))

noncomputable def slices_IndexFunc_int__impl_without_1 (s_ : List Int) (o0 : Int) : Option Int :=
 loop (slices_IndexFunc_int__impl_without_1_l1 s_ o0) (0:Int)

/-- slices.DeleteFunc[[]int,int] -/
noncomputable def slices_DeleteFunc_int__impl_without_1_j1 : Int × (List Int) → Option (List Int) := fun (i1, s_2) =>
 rq (0 ≤ i1 ∧ i1 ≤ s_2.length) <|
 rq (0 ≤ i1 ∧ i1 ≤ (s_2.take i1.toNat ++ List.replicate (s_2.length - i1.toNat) (0:Int)).length) <|
 some ((s_2.take i1.toNat ++ List.replicate (s_2.length - i1.toNat) (0:Int)).take i1.toNat)

noncomputable def slices_DeleteFunc_int__impl_without_1_l1 (o0 : Int) : Int × Int × (List Int) → Option ((Int × Int × (List Int)) ⊕ (List Int)) := fun (i, j, s_1) =>
 cond (decide (j < (s_1.length:Int))) (
  rq (0 ≤ j ∧ j < s_1.length) <|
  (impl_without_1 (s_1.getD j.toNat 0) o0).bind fun r3_ =>
  cond (!r3_) (
   rq (0 ≤ i ∧ i < s_1.length) <|
   rq (i64 (i + (1:Int))) <|
   rq (i64 (j + (1:Int))) <|
   some (.inl ((i + (1:Int)), (j + (1:Int)), (s_1.set i.toNat (s_1.getD j.toNat 0))))) (
   rq (i64 (j + (1:Int))) <|
   some (.inl (i, (j + (1:Int)), s_1)))) (
  up (slices_DeleteFunc_int__impl_without_1_j1 (i, s_1)))

noncomputable def slices_DeleteFunc_int__impl_without_1 (o0 : Int) (s_ : List Int) : Option (List Int) :=
 (slices_IndexFunc_int__impl_without_1 s_ o0).bind fun r1_ =>
 cond (r1_ == (-1:Int)) (
  some s_) (
  rq (i64 (r1_ + (1:Int))) <|
  loop (slices_DeleteFunc_int__impl_without_1_l1 o0) (r1_, (r1_ + (1:Int)), s_))

/-- impl.without -/
noncomputable def impl_without (list_ : List Int) (k_ : Int) : Option (List Int) :=
 (slices_Clone_int list_).bind fun r1_ =>
 (slices_DeleteFunc_int__impl_without_1 k_ r1_).bind fun r2_ =>
 some r2_

/-- impl.partOf -/
noncomputable def impl_partOf_l1 (list_ : List D3_) (keep : List Int) : Int × (List D3_) → Option ((Int × (List D3_)) ⊕ (List D3_)) := fun (i, out) =>
 cond (decide (i < (keep.length:Int))) (
  rq (0 ≤ i ∧ i < keep.length) <|
  rq (0 ≤ (keep.getD i.toNat 0) ∧ (keep.getD i.toNat 0) < list_.length) <|
  rq (out.length + [(list_.getD (keep.getD i.toNat 0).toNat ([], 0))].length ≤ bound) <|
  rq (i64 (i + (1:Int))) <|
  some (.inl ((i + (1:Int)), (out ++ [(list_.getD (keep.getD i.toNat 0).toNat ([], 0))])))) (
  some (.inr out))

noncomputable def impl_partOf (list_ : List D3_) (keep : List Int) : Option (List D3_) :=
 loop (impl_partOf_l1 list_ keep) ((0:Int), ([] : List D3_))

/-- impl.partOf -/
noncomputable def impl_partOf__s_l1 (list_ : List D3_) (keep : List Int) : Int × (List D3_) → Option ((Int × (List D3_)) ⊕ (List D3_)) := fun (i, out) =>
 cond (decide (i < (keep.length:Int))) (
  rq (0 ≤ i ∧ i < keep.length) <|
  rq (0 ≤ (keep.getD i.toNat 0) ∧ (keep.getD i.toNat 0) < list_.length) <|
  rq (out.length + [(list_.getD (keep.getD i.toNat 0).toNat ([], 0))].length ≤ bound) <|
  rq (i64 (i + (1:Int))) <|
  some (.inl ((i + (1:Int)), (out ++ [(list_.getD (keep.getD i.toNat 0).toNat ([], 0))])))) (
  some (.inr out))

noncomputable def impl_partOf__s (list_ : List D3_) (keep : List Int) : Option (List D3_) :=
 loop (impl_partOf__s_l1 list_ keep) ((0:Int), ([] : List D3_))

/-- impl.MinimalCore -/
noncomputable def impl_MinimalCore_l1 (list_ : List D3_) : Int × (List Int) → Option ((Int × (List Int)) ⊕ (Bool × (List Int))) := fun (k_, out) =>
 cond (decide ((0:Int) ≤ k_)) (
  (impl_without out k_).bind fun r7_ =>
  (impl_partOf__s list_ r7_).bind fun r8_ =>
  (impl_solvable r8_).bind fun r9_ =>
  cond (!r9_) (
   rq (i64 (k_ - (1:Int))) <|
   some (.inl ((k_ - (1:Int)), r7_))) (
   rq (i64 (k_ - (1:Int))) <|
   some (.inl ((k_ - (1:Int)), out)))) (
  some (.inr (true, out)))

noncomputable def impl_MinimalCore (list_ : List D3_) : Option (Bool × (List Int)) :=
 (impl_ProblemValid list_).bind fun r1_ =>
 cond (!r1_) (
  some (false, ([] : List Int))) (
  (impl_solvable list_).bind fun r2_ =>
  cond r2_ (
   some (false, ([] : List Int))) (
   (impl_indices (list_.length:Int)).bind fun r3_ =>
   rq (i64 ((list_.length:Int) - (1:Int))) <|
   loop (impl_MinimalCore_l1 list_) (((list_.length:Int) - (1:Int)), r3_)))

/-- spec.l1Lit -/
noncomputable def spec_l1Lit (n : Int) : Option Bool :=
 cond (n != (0:Int)) (
  cond (decide ((-12:Int) ≤ n)) (
   some (decide (n ≤ (12:Int)))) (
   some false)) (
  some false)

/-- spec.l1Abs -/
noncomputable def spec_l1Abs (n : Int) : Option Int :=
 cond (decide (n < (0:Int))) (
  rq (i64 (0 - n)) <|
  some (0 - n)) (
  some n)

/-- spec.ConstraintValid -/
noncomputable def spec_ConstraintValid_l1 (c_ : (List D2_) × Int) : Int → Option (Int ⊕ Bool) := fun i =>
 cond (decide (i < (c_.1.length:Int))) (
  rq (0 ≤ i ∧ i < c_.1.length) <|
  (spec_l1Lit (c_.1.getD i.toNat (0, 0)).2).bind fun r4_ =>
  cond (!r4_) (
   some (.inr false)) (
   cond (decide ((c_.1.getD i.toNat (0, 0)).1 < (1:Int))) (
    some (.inr false)) (
    cond (decide ((1000:Int) < (c_.1.getD i.toNat (0, 0)).1)) (
     some (.inr false)) (
     cond (decide ((0:Int) < i)) (
      rq (i64 (i - (1:Int))) <|
      rq (0 ≤ (i - (1:Int)) ∧ (i - (1:Int)) < c_.1.length) <|
      (spec_l1Abs (c_.1.getD (i - (1:Int)).toNat (0, 0)).2).bind fun r5_ =>
      (spec_l1Abs (c_.1.getD i.toNat (0, 0)).2).bind fun r6_ =>
      cond (decide (r6_ ≤ r5_)) (
       some (.inr false)) (
       rq (i64 (i + (1:Int))) <|
       some (.inl (i + (1:Int))))) (
      rq (i64 (i + (1:Int))) <|
      some (.inl (i + (1:Int)))))))) (
  cond (decide ((0:Int) ≤ c_.2)) (
   some (.inr (decide (c_.2 ≤ (20000:Int))))) (
   some (.inr false)))

noncomputable def spec_ConstraintValid (c_ : (List D2_) × Int) : Option Bool :=
 loop (spec_ConstraintValid_l1 c_) (0:Int)

/-- spec.ProblemValid -/
noncomputable def spec_ProblemValid_l1 (list_ : List D3_) : Int → Option (Int ⊕ Bool) := fun i =>
 cond (decide (i < (list_.length:Int))) (
  rq (0 ≤ i ∧ i < list_.length) <|
  (spec_ConstraintValid (list_.getD i.toNat ([], 0))).bind fun r1_ =>
  cond (!r1_) (
   some (.inr false)) (
   rq (i64 (i + (1:Int))) <|
   some (.inl (i + (1:Int))))) (
  some (.inr (decide ((list_.length:Int) ≤ (400:Int)))))

noncomputable def spec_ProblemValid (list_ : List D3_) : Option Bool :=
 loop (spec_ProblemValid_l1 list_) (0:Int)

/-- spec.l5Number -/
noncomputable def spec_l5Number_l1 (values : List Bool) : Int × Int → Option ((Int × Int) ⊕ Int) := fun (n, i) =>
 cond (decide (i < (values.length:Int))) (
  rq (i64 (n * (2:Int))) <|
  rq (0 ≤ i ∧ i < values.length) <|
  cond (values.getD i.toNat false) (
   rq (i64 ((n * (2:Int)) + (1:Int))) <|
   rq (i64 (i + (1:Int))) <|
   some (.inl (((n * (2:Int)) + (1:Int)), (i + (1:Int))))) (
   rq (i64 (i + (1:Int))) <|
   some (.inl ((n * (2:Int)), (i + (1:Int)))))) (
  some (.inr n))

noncomputable def spec_l5Number (values : List Bool) : Option Int :=
 loop (spec_l5Number_l1 values) ((0:Int), (0:Int))

/-- spec.l5Values -/
noncomputable def spec_l5Values_l1 : Int × Int × (List Bool) → Option ((Int × Int × (List Bool)) ⊕ (List Bool)) := fun (n1, i, out) =>
 cond (decide ((0:Int) ≤ i)) (
  rq (1 ≤ (2:Int) ∧ 0 ≤ n1) <|
  rq (0 ≤ i ∧ i < out.length) <|
  rq (1 ≤ (2:Int) ∧ 0 ≤ n1) <|
  rq (i64 (i - (1:Int))) <|
  some (.inl ((n1 / (2:Int)), (i - (1:Int)), (out.set i.toNat ((n1 % (2:Int)) == (1:Int)))))) (
  some (.inr out))

noncomputable def spec_l5Values (n : Int) : Option (List Bool) :=
 rq (0 ≤ (12:Int) ∧ (12:Int) ≤ bound ∧ (12:Int) = (12:Int)) <|
 loop (spec_l5Values_l1) (n, (11:Int), (List.replicate (12:Int).toNat false))

/-- spec.l1True -/
noncomputable def spec_l1True (values : List Bool) (lit : Int) : Option Bool :=
 cond (decide ((0:Int) < lit)) (
  rq (i64 (lit - (1:Int))) <|
  rq (0 ≤ (lit - (1:Int)) ∧ (lit - (1:Int)) < values.length) <|
  some (values.getD (lit - (1:Int)).toNat false)) (
  rq (i64 (0 - lit)) <|
  rq (i64 ((0 - lit) - (1:Int))) <|
  rq (0 ≤ ((0 - lit) - (1:Int)) ∧ ((0 - lit) - (1:Int)) < values.length) <|
  some (!(values.getD ((0 - lit) - (1:Int)).toNat false)))

/-- spec.l1Eval -/
noncomputable def spec_l1Eval_l1 (c_ : (List D2_) × Int) (values : List Bool) : Int × Int → Option ((Int × Int) ⊕ Bool) := fun (n, i) =>
 cond (decide (i < (c_.1.length:Int))) (
  rq (0 ≤ i ∧ i < c_.1.length) <|
  (spec_l1True values (c_.1.getD i.toNat (0, 0)).2).bind fun r1_ =>
  cond r1_ (
   rq (0 ≤ i ∧ i < c_.1.length) <|
   rq (i64 (n + (c_.1.getD i.toNat (0, 0)).1)) <|
   rq (i64 (i + (1:Int))) <|
   some (.inl ((n + (c_.1.getD i.toNat (0, 0)).1), (i + (1:Int))))) (
   rq (i64 (i + (1:Int))) <|
   some (.inl (n, (i + (1:Int)))))) (
  some (.inr (decide (c_.2 ≤ n))))

noncomputable def spec_l1Eval (c_ : (List D2_) × Int) (values : List Bool) : Option Bool :=
 loop (spec_l1Eval_l1 c_ values) ((0:Int), (0:Int))

/-- spec.l3All -/
noncomputable def spec_l3All_l1 (list_ : List D3_) (values : List Bool) : Int → Option (Int ⊕ Bool) := fun i =>
 cond (decide (i < (list_.length:Int))) (
  rq (0 ≤ i ∧ i < list_.length) <|
  (spec_l1Eval (list_.getD i.toNat ([], 0)) values).bind fun r1_ =>
  cond (!r1_) (
   some (.inr false)) (
   rq (i64 (i + (1:Int))) <|
   some (.inl (i + (1:Int))))) (
  some (.inr true))

noncomputable def spec_l3All (list_ : List D3_) (values : List Bool) : Option Bool :=
 loop (spec_l3All_l1 list_ values) (0:Int)

/-- spec.NextSolution -/
noncomputable def spec_NextSolution_l1 (list_ : List D3_) : Int → Option (Int ⊕ (Bool × (List Bool))) := fun k_ =>
 cond (decide (k_ < (4096:Int))) (
  (spec_l5Values k_).bind fun r3_ =>
  (spec_l3All list_ r3_).bind fun r4_ =>
  cond r4_ (
   (spec_l5Values k_).bind fun r5_ =>
   some (.inr (true, r5_))) (
   rq (i64 (k_ + (1:Int))) <|
   some (.inl (k_ + (1:Int))))) (
  some (.inr (false, ([] : List Bool))))

noncomputable def spec_NextSolution (list_ : List D3_) (values : List Bool) : Option (Bool × (List Bool)) :=
 (spec_ProblemValid list_).bind fun r1_ =>
 cond (!r1_) (
  some (false, ([] : List Bool))) (
  cond ((values.length:Int) != (12:Int)) (
   some (false, ([] : List Bool))) (
   (spec_l5Number values).bind fun r2_ =>
   loop (spec_NextSolution_l1 list_) r2_))

/-- spec.l11Open -/
noncomputable def spec_l11Open (list_ : List D3_) : Option Bool :=
 rq (0 ≤ (12:Int) ∧ (12:Int) ≤ bound ∧ (12:Int) = (12:Int)) <|
 (spec_NextSolution list_ (List.replicate (12:Int).toNat false)).bind fun r1_ =>
 some r1_.1

/-- spec.l11Count -/
noncomputable def spec_l11Count_l1 (n : Int) : Int × (List Int) → Option ((Int × (List Int)) ⊕ (List Int)) := fun (i, out) =>
 cond (decide (i < n)) (
  rq (out.length + [i].length ≤ bound) <|
  rq (i64 (i + (1:Int))) <|
  some (.inl ((i + (1:Int)), (out ++ [i])))) (
  some (.inr out))

noncomputable def spec_l11Count (n : Int) : Option (List Int) :=
 loop (spec_l11Count_l1 n) ((0:Int), ([] : List Int))

/-- spec.l11Without -/
noncomputable def spec_l11Without (list_ : List Int) (at_ : Int) : Option (List Int) :=
 rq (i64 (at_ + (1:Int))) <|
 rq (0 ≤ at_ ∧ at_ ≤ list_.length) <|
 rq (([] : List Int).length + (list_.take at_.toNat).length ≤ bound) <|
 rq (0 ≤ (at_ + (1:Int)) ∧ (at_ + (1:Int)) ≤ list_.length) <|
 rq ((([] : List Int) ++ (list_.take at_.toNat)).length + (list_.drop (at_ + (1:Int)).toNat).length ≤ bound) <|
 some ((([] : List Int) ++ (list_.take at_.toNat)) ++ (list_.drop (at_ + (1:Int)).toNat))

/-- spec.l11Sub -/
noncomputable def spec_l11Sub_l1 (list_ : List D3_) (keep : List Int) : Int × (List D3_) → Option ((Int × (List D3_)) ⊕ (List D3_)) := fun (i, out) =>
 cond (decide (i < (keep.length:Int))) (
  rq (0 ≤ i ∧ i < keep.length) <|
  rq (0 ≤ (keep.getD i.toNat 0) ∧ (keep.getD i.toNat 0) < list_.length) <|
  (spec_l1Copy (list_.getD (keep.getD i.toNat 0).toNat ([], 0))).bind fun r2_ =>
  rq (out.length + [(r2_.2, r2_.1)].length ≤ bound) <|
  rq (i64 (i + (1:Int))) <|
  some (.inl ((i + (1:Int)), (out ++ [(r2_.2, r2_.1)])))) (
  some (.inr out))

noncomputable def spec_l11Sub (list_ : List D3_) (keep : List Int) : Option (List D3_) :=
 loop (spec_l11Sub_l1 list_ keep) ((0:Int), ([] : List D3_))

/-- spec.MinimalCore -/
noncomputable def spec_MinimalCore_l2 (list_ : List D3_) (i : Int) : Int × (List Int) → Option ((Int × (List Int)) ⊕ ((Int × (List Int)) ⊕ (Bool × (List Int)))) := fun (k_1, keep2) =>
 cond (decide (k_1 < (keep2.length:Int))) (
  rq (0 ≤ k_1 ∧ k_1 < keep2.length) <|
  cond ((keep2.getD k_1.toNat 0) == i) (
   (spec_l11Without keep2 k_1).bind fun r16_ =>
   (spec_l11Sub list_ r16_).bind fun r17_ =>
   (spec_l11Open r17_).bind fun r18_ =>
   cond (!r18_) (
    (spec_l11Without keep2 k_1).bind fun r19_ =>
    rq (i64 (k_1 + (1:Int))) <|
    some (.inl ((k_1 + (1:Int)), r19_))) (
    rq (i64 (k_1 + (1:Int))) <|
    some (.inl ((k_1 + (1:Int)), keep2)))) (
   rq (i64 (k_1 + (1:Int))) <|
   some (.inl ((k_1 + (1:Int)), keep2)))) (
  rq (i64 (i - (1:Int))) <|
  some (.inr (.inl ((i - (1:Int)), keep2))))

noncomputable def spec_MinimalCore_l1 (list_ : List D3_) : Int × (List Int) → Option ((Int × (List Int)) ⊕ (Bool × (List Int))) := fun (i, keep1) =>
 cond (decide ((0:Int) ≤ i)) (
  loop (spec_MinimalCore_l2 list_ i) ((0:Int), keep1)) (
  some (.inr (true, keep1)))

noncomputable def spec_MinimalCore (list_ : List D3_) : Option (Bool × (List Int)) :=
 (spec_ProblemValid list_).bind fun r1_ =>
 cond (!r1_) (
  some (false, ([] : List Int))) (
  (spec_l11Open list_).bind fun r2_ =>
  cond r2_ (
   some (false, ([] : List Int))) (
   (spec_l11Count (list_.length:Int)).bind fun r3_ =>
   rq (i64 ((list_.length:Int) - (1:Int))) <|
   loop (spec_MinimalCore_l1 list_) (((list_.length:Int) - (1:Int)), r3_)))

/-- laws.cpInts -/
noncomputable def laws_cpInts_l1 (a : List Int) (b : List Int) : Int → Option (Int ⊕ Bool) := fun i =>
 cond (decide (i < (a.length:Int))) (
  rq (0 ≤ i ∧ i < a.length) <|
  rq (0 ≤ i ∧ i < b.length) <|
  cond ((a.getD i.toNat 0) != (b.getD i.toNat 0)) (
   some (.inr false)) (
   rq (i64 (i + (1:Int))) <|
   some (.inl (i + (1:Int))))) (
  some (.inr true))

noncomputable def laws_cpInts (a : List Int) (b : List Int) : Option Bool :=
 cond ((a.length:Int) != (b.length:Int)) (
  some false) (
  loop (laws_cpInts_l1 a b) (0:Int))

/-- impl.isPart -/
noncomputable def impl_isPart_l1 (keep : List Int) (count : Int) : Int → Option (Int ⊕ Bool) := fun i =>
 cond (decide (i < (keep.length:Int))) (
  rq (0 ≤ i ∧ i < keep.length) <|
  rq (i64 (count - (1:Int))) <|
  (impl_within (keep.getD i.toNat 0) (0:Int) (count - (1:Int))).bind fun r1_ =>
  cond (!r1_) (
   some (.inr false)) (
   cond (decide ((0:Int) < i)) (
    rq (i64 (i - (1:Int))) <|
    rq (0 ≤ (i - (1:Int)) ∧ (i - (1:Int)) < keep.length) <|
    cond (decide ((keep.getD i.toNat 0) ≤ (keep.getD (i - (1:Int)).toNat 0))) (
     some (.inr false)) (
     rq (i64 (i + (1:Int))) <|
     some (.inl (i + (1:Int))))) (
    rq (i64 (i + (1:Int))) <|
    some (.inl (i + (1:Int)))))) (
  some (.inr true))

noncomputable def impl_isPart (keep : List Int) (count : Int) : Option Bool :=
 loop (impl_isPart_l1 keep count) (0:Int)

/-- slices.Clone[[]impl.Term,impl.Term] -/
noncomputable def slices_Clone_impl_Term (s_ : List D2_) : Option (List D2_) :=
 nt (s_ = []) (
  some ([] : List D2_)) (
  rq (([] : List D2_).length + s_.length ≤ bound) <|
  some (([] : List D2_) ++ s_))

/-- (impl.Constraint).own -/
noncomputable def impl_Constraint_own (c_ : (List D2_) × Int) : Option (Int × (List D2_)) :=
 (slices_Clone_impl_Term c_.1).bind fun r1_ =>
 some (c_.2, r1_)

/-- impl.ownAll -/
noncomputable def impl_ownAll_l1 (list_ : List D3_) : Int × (List D3_) → Option ((Int × (List D3_)) ⊕ (List D3_)) := fun (i, out) =>
 cond (decide (i < (list_.length:Int))) (
  rq (0 ≤ i ∧ i < list_.length) <|
  (impl_Constraint_own (list_.getD i.toNat ([], 0))).bind fun r2_ =>
  rq (out.length + [(r2_.2, r2_.1)].length ≤ bound) <|
  rq (i64 (i + (1:Int))) <|
  some (.inl ((i + (1:Int)), (out ++ [(r2_.2, r2_.1)])))) (
  some (.inr out))

noncomputable def impl_ownAll (list_ : List D3_) : Option (List D3_) :=
 loop (impl_ownAll_l1 list_) ((0:Int), ([] : List D3_))

/-- impl.SubProblem -/
noncomputable def impl_SubProblem (list_ : List D3_) (keep : List Int) : Option (Bool × (List D3_)) :=
 (impl_ProblemValid list_).bind fun r1_ =>
 cond (!r1_) (
  some (false, ([] : List D3_))) (
  (impl_isPart keep (list_.length:Int)).bind fun r2_ =>
  cond (!r2_) (
   some (false, ([] : List D3_))) (
   (impl_partOf list_ keep).bind fun r3_ =>
   (impl_ownAll r3_).bind fun r4_ =>
   some (true, r4_)))

/-- impl.isFuel -/
noncomputable def impl_isFuel (fuel : Int) : Option Bool :=
 (impl_within fuel (0:Int) (2000:Int)).bind fun r1_ =>
 some r1_

/-- slices.Clone[[]impl.Constraint,impl.Constraint] -/
noncomputable def slices_Clone_impl_Constraint (s_ : List D3_) : Option (List D3_) :=
 nt (s_ = []) (
  some ([] : List D3_)) (
  rq (([] : List D3_).length + s_.length ≤ bound) <|
  some (([] : List D3_) ++ s_))

/-- impl.under -/
noncomputable def impl_under (l : Int) (p : List Int) : Option Int :=
 cond (decide (l < (0:Int))) (
  rq (i64 (0 - l)) <|
  rq (i64 ((0 - l) - (1:Int))) <|
  rq (0 ≤ ((0 - l) - (1:Int)) ∧ ((0 - l) - (1:Int)) < p.length) <|
  rq (i64 (0 - (p.getD ((0 - l) - (1:Int)).toNat 0))) <|
  some (0 - (p.getD ((0 - l) - (1:Int)).toNat 0))) (
  rq (i64 (l - (1:Int))) <|
  rq (0 ≤ (l - (1:Int)) ∧ (l - (1:Int)) < p.length) <|
  some (p.getD (l - (1:Int)).toNat 0))

/-- (impl.Constraint).slack -/
noncomputable def impl_Constraint_slack_l1 (c_ : (List D2_) × Int) (p : List Int) : Int × Int → Option ((Int × Int) ⊕ Int) := fun (out, i) =>
 cond (decide (i < (c_.1.length:Int))) (
  rq (0 ≤ i ∧ i < c_.1.length) <|
  (impl_under (c_.1.getD i.toNat (0, 0)).2 p).bind fun r1_ =>
  cond (decide ((0:Int) ≤ r1_)) (
   rq (i64 (out + (c_.1.getD i.toNat (0, 0)).1)) <|
   rq (i64 (i + (1:Int))) <|
   some (.inl ((out + (c_.1.getD i.toNat (0, 0)).1), (i + (1:Int))))) (
   rq (i64 (i + (1:Int))) <|
   some (.inl (out, (i + (1:Int)))))) (
  some (.inr out))

noncomputable def impl_Constraint_slack (c_ : (List D2_) × Int) (p : List Int) : Option Int :=
 rq (i64 (0 - c_.2)) <|
 loop (impl_Constraint_slack_l1 c_ p) ((0 - c_.2), (0:Int))

/-- (impl.Constraint).implied -/
noncomputable def impl_Constraint_implied_l1 (c_ : (List D2_) × Int) (p : List Int) (r1_ : Int) : Int × (List Int) → Option ((Int × (List Int)) ⊕ (List Int)) := fun (i, out) =>
 cond (decide (i < (c_.1.length:Int))) (
  rq (0 ≤ i ∧ i < c_.1.length) <|
  (impl_under (c_.1.getD i.toNat (0, 0)).2 p).bind fun r3_ =>
  cond (r3_ == (0:Int)) (
   cond (decide (r1_ < (c_.1.getD i.toNat (0, 0)).1)) (
    rq (out.length + [(c_.1.getD i.toNat (0, 0)).2].length ≤ bound) <|
    rq (i64 (i + (1:Int))) <|
    some (.inl ((i + (1:Int)), (out ++ [(c_.1.getD i.toNat (0, 0)).2])))) (
    rq (i64 (i + (1:Int))) <|
    some (.inl ((i + (1:Int)), out)))) (
   rq (i64 (i + (1:Int))) <|
   some (.inl ((i + (1:Int)), out)))) (
  some (.inr out))

noncomputable def impl_Constraint_implied (c_ : (List D2_) × Int) (p : List Int) : Option (List Int) :=
 (impl_Constraint_slack c_ p).bind fun r1_ =>
 loop (impl_Constraint_implied_l1 c_ p r1_) ((0:Int), ([] : List Int))

/-- impl.propagate -/
noncomputable def impl_propagate_l3 (i3 : Int) (r9_ : (List Int)) : Bool × Int × (List Int) → Option ((Bool × Int × (List Int)) ⊕ ((Bool × Int × (List Int)) ⊕ ((Bool × (List Int)) ⊕ (Int × (List Int))))) := fun (made6, i5, out6) =>
 cond (decide (i5 < (r9_.length:Int))) (
  rq (0 ≤ i5 ∧ i5 < r9_.length) <|
  cond (decide ((0:Int) < (r9_.getD i5.toNat 0))) (
   rq (i64 ((r9_.getD i5.toNat 0) - (1:Int))) <|
   rq (0 ≤ ((r9_.getD i5.toNat 0) - (1:Int)) ∧ ((r9_.getD i5.toNat 0) - (1:Int)) < out6.length) <|
   rq (i64 (i5 + (1:Int))) <|
   some (.inl (true, (i5 + (1:Int)), (out6.set ((r9_.getD i5.toNat 0) - (1:Int)).toNat (1:Int))))) (
   rq (i64 (0 - (r9_.getD i5.toNat 0))) <|
   rq (i64 ((0 - (r9_.getD i5.toNat 0)) - (1:Int))) <|
   rq (0 ≤ ((0 - (r9_.getD i5.toNat 0)) - (1:Int)) ∧ ((0 - (r9_.getD i5.toNat 0)) - (1:Int)) < out6.length) <|
   rq (i64 (i5 + (1:Int))) <|
   some (.inl (true, (i5 + (1:Int)), (out6.set ((0 - (r9_.getD i5.toNat 0)) - (1:Int)).toNat (-1:Int)))))) (
  rq (i64 (i3 + (1:Int))) <|
  some (.inr (.inl (made6, (i3 + (1:Int)), out6))))

noncomputable def impl_propagate_l2 (list_ : List D3_) : Bool × Int × (List Int) → Option ((Bool × Int × (List Int)) ⊕ ((Bool × (List Int)) ⊕ (Int × (List Int)))) := fun (made4, i3, out5) =>
 cond (decide (i3 < (list_.length:Int))) (
  rq (0 ≤ i3 ∧ i3 < list_.length) <|
  (impl_Constraint_slack (list_.getD i3.toNat ([], 0)) out5).bind fun r8_ =>
  cond (decide (r8_ < (0:Int))) (
   some (.inr (.inr (i3, out5)))) (
   (impl_Constraint_implied (list_.getD i3.toNat ([], 0)) out5).bind fun r9_ =>
   loop (impl_propagate_l3 i3 r9_) (made4, (0:Int), out5))) (
  some (.inr (.inl (made4, out5))))

noncomputable def impl_propagate_l1 (list_ : List D3_) : Bool × (List Int) → Option ((Bool × (List Int)) ⊕ (Int × (List Int))) := fun (made, out3) =>
 cond made (
  loop (impl_propagate_l2 list_) (false, (0:Int), out3)) (
  some (.inr ((-1:Int), out3)))

noncomputable def impl_propagate (list_ : List D3_) (p : List Int) : Option (Int × (List Int)) :=
 (slices_Clone_int p).bind fun r1_ =>
 loop (impl_propagate_l1 list_) (true, r1_)

/-- impl.valuesOf -/
noncomputable def impl_valuesOf_j1 : (List Bool) → Option (Int × Bool × (List Bool)) := fun out1 =>
 some ((0:Int), true, out1)

noncomputable def impl_valuesOf_l1 (p : List Int) : Int × (List Bool) → Option ((Int × (List Bool)) ⊕ (Int × Bool × (List Bool))) := fun (i, out) =>
 cond (decide (i < (p.length:Int))) (
  rq (0 ≤ i ∧ i < p.length) <|
  cond ((p.getD i.toNat 0) == (0:Int)) (
   rq (i64 (i + (1:Int))) <|
   some (.inr ((i + (1:Int)), false, ([] : List Bool)))) (
   rq (out.length + [(decide ((0:Int) < (p.getD i.toNat 0)))].length ≤ bound) <|
   rq (i64 (i + (1:Int))) <|
   some (.inl ((i + (1:Int)), (out ++ [(decide ((0:Int) < (p.getD i.toNat 0)))]))))) (
  up (impl_valuesOf_j1 out))

noncomputable def impl_valuesOf (p : List Int) : Option (Int × Bool × (List Bool)) :=
 loop (impl_valuesOf_l1 p) ((0:Int), ([] : List Bool))

/-- slices.Index[[]int,int] -/
noncomputable def slices_Index_int_l1 (s_ : List Int) (v : Int) : Int → Option (Int ⊕ Int) := fun i =>
 cond (decide (i < (s_.length:Int))) (
  rq (0 ≤ i ∧ i < s_.length) <|
  cond (v == (s_.getD i.toNat 0)) (
   some (.inr i)) (
   rq (i64 (i + (1:Int))) <|
   some (.inl (i + (1:Int))))) (
  some (.inr (-1:Int)))

noncomputable def slices_Index_int (s_ : List Int) (v : Int) : Option Int :=
 loop (slices_Index_int_l1 s_ v) (0:Int)

/-- slices.Contains[[]int,int] -/
noncomputable def slices_Contains_int (s_ : List Int) (v : Int) : Option Bool :=
 (slices_Index_int s_ v).bind fun r1_ =>
 some (decide ((0:Int) ≤ r1_))

/-- impl.ClauseOf$1 -/
noncomputable def impl_ClauseOf_1 (a : Int) (b : Int) : Option Int :=
 (impl_variableOf a).bind fun r1_ =>
 (impl_variableOf b).bind fun r2_ =>
 rq (i64 (r1_ - r2_)) <|
 some (r1_ - r2_)

/-- slices.Compact[[]int,int] -/
noncomputable def slices_Compact_int_j1 : Int × (List Int) → Option (Int ⊕ (List Int)) := fun (k_2, s_2) =>
 rq (0 ≤ k_2 ∧ k_2 ≤ s_2.length) <|
 rq (0 ≤ k_2 ∧ k_2 ≤ (s_2.take k_2.toNat ++ List.replicate (s_2.length - k_2.toNat) (0:Int)).length) <|
 some (.inr ((s_2.take k_2.toNat ++ List.replicate (s_2.length - k_2.toNat) (0:Int)).take k_2.toNat))

noncomputable def slices_Compact_int_l2 (k_ : Int) : Int × Int × (List Int) → Option ((Int × Int × (List Int)) ⊕ (Int ⊕ (List Int))) := fun (k_1, k2_, s_1) =>
 cond (decide (k2_ < ((s_1.length:Int) - k_))) (
  rq (0 ≤ k2_ ∧ k_ + k2_ < s_1.length) <|
  rq (i64 (k2_ - (1:Int))) <|
  rq (0 ≤ (k2_ - (1:Int)) ∧ k_ + (k2_ - (1:Int)) < s_1.length) <|
  cond ((s_1.getD (k_ + k2_).toNat 0) != (s_1.getD (k_ + (k2_ - (1:Int))).toNat 0)) (
   rq (0 ≤ k2_ ∧ k_ + k2_ < s_1.length) <|
   rq (0 ≤ k_1 ∧ k_1 < s_1.length) <|
   rq (i64 (k_1 + (1:Int))) <|
   rq (i64 (k2_ + (1:Int))) <|
   some (.inl ((k_1 + (1:Int)), (k2_ + (1:Int)), (s_1.set k_1.toNat (s_1.getD (k_ + k2_).toNat 0))))) (
   rq (i64 (k2_ + (1:Int))) <|
   some (.inl (k_1, (k2_ + (1:Int)), s_1)))) (
  up (slices_Compact_int_j1 (k_1, s_1)))

noncomputable def slices_Compact_int_l1 (s_ : List Int) : Int → Option (Int ⊕ (List Int)) := fun k_ =>
 cond (decide (k_ < (s_.length:Int))) (
  rq (0 ≤ k_ ∧ k_ < s_.length) <|
  rq (i64 (k_ - (1:Int))) <|
  rq (0 ≤ (k_ - (1:Int)) ∧ (k_ - (1:Int)) < s_.length) <|
  cond ((s_.getD k_.toNat 0) == (s_.getD (k_ - (1:Int)).toNat 0)) (
   rq (0 ≤ k_ ∧ k_ ≤ s_.length) <|
   loop (slices_Compact_int_l2 k_) (k_, (1:Int), s_)) (
   rq (i64 (k_ + (1:Int))) <|
   some (.inl (k_ + (1:Int))))) (
  some (.inr s_))

noncomputable def slices_Compact_int (s_ : List Int) : Option (List Int) :=
 cond (decide ((s_.length:Int) < (2:Int))) (
  some s_) (
  loop (slices_Compact_int_l1 s_) (1:Int))

/-- impl.ClauseOf -/
noncomputable def impl_ClauseOf_l2 (r5_ : (List Int)) : Int × (List D2_) → Option ((Int × (List D2_)) ⊕ (Int ⊕ (Bool × Int × (List D2_)))) := fun (i1, c_0) =>
 cond (decide (i1 < (r5_.length:Int))) (
  rq (0 ≤ i1 ∧ i1 < r5_.length) <|
  rq (c_0.length + [((1:Int), (r5_.getD i1.toNat 0))].length ≤ bound) <|
  rq (i64 (i1 + (1:Int))) <|
  some (.inl ((i1 + (1:Int)), (c_0 ++ [((1:Int), (r5_.getD i1.toNat 0))])))) (
  some (.inr (.inr (true, (1:Int), c_0))))

noncomputable def impl_ClauseOf_l1 (lits : List Int) : Int → Option (Int ⊕ (Bool × Int × (List D2_))) := fun i =>
 cond (decide (i < (lits.length:Int))) (
  rq (0 ≤ i ∧ i < lits.length) <|
  (impl_isLiteral (lits.getD i.toNat 0)).bind fun r1_ =>
  cond (!r1_) (
   some (.inr (false, (0:Int), ([] : List D2_)))) (
   rq (i64 (0 - (lits.getD i.toNat 0))) <|
   (slices_Contains_int lits (0 - (lits.getD i.toNat 0))).bind fun r2_ =>
   cond r2_ (
    some (.inr (false, (0:Int), ([] : List D2_)))) (
    rq (i64 (i + (1:Int))) <|
    some (.inl (i + (1:Int)))))) (
  (slices_Clone_int lits).bind fun r3_ =>
  (sortI impl_ClauseOf_1 r3_).bind fun r4_ =>
  (slices_Compact_int r4_).bind fun r5_ =>
  loop (impl_ClauseOf_l2 r5_) ((0:Int), ([] : List D2_)))

noncomputable def impl_ClauseOf (lits : List Int) : Option (Bool × Int × (List D2_)) :=
 cond (decide ((40:Int) < (lits.length:Int))) (
  some (false, (0:Int), ([] : List D2_))) (
  loop (impl_ClauseOf_l1 lits) (0:Int))

/-- (*impl.searching).fail -/
noncomputable def impl_searching_fail__Rsd_j2 (o1 : List D3_) (o2 : List D6_) (r1_ : Bool × Int × (List D2_)) : Unit → Option ((List D3_) × (List D6_)) := fun _ =>
 (impl_Constraint_own (r1_.2.2, r1_.2.1)).bind fun r3_ =>
 rq (o2.length + [((7:Int), ((0:Int), ((0:Int), (r3_.2, r3_.1))))].length ≤ bound) <|
 some ((o1 ++ [(r1_.2.2, r1_.2.1)]), (o2 ++ [((7:Int), ((0:Int), ((0:Int), (r3_.2, r3_.1))))]))

noncomputable def impl_searching_fail__Rsd_j1 (o1 : List D3_) (o2 : List D6_) : (List Int) → Option ((List D3_) × (List D6_)) := fun lits1 =>
 (impl_ClauseOf lits1).bind fun r1_ =>
 rq (o1.length + [(r1_.2.2, r1_.2.1)].length ≤ bound) <|
 impl_searching_fail__Rsd_j2 o1 o2 r1_ ()

noncomputable def impl_searching_fail__Rsd_l1 (decisions : List Int) (o1 : List D3_) (o2 : List D6_) : Int × (List Int) → Option ((Int × (List Int)) ⊕ ((List D3_) × (List D6_))) := fun (i, lits) =>
 cond (decide (i < (decisions.length:Int))) (
  rq (0 ≤ i ∧ i < decisions.length) <|
  rq (i64 (0 - (decisions.getD i.toNat 0))) <|
  rq (lits.length + [(0 - (decisions.getD i.toNat 0))].length ≤ bound) <|
  rq (i64 (i + (1:Int))) <|
  some (.inl ((i + (1:Int)), (lits ++ [(0 - (decisions.getD i.toNat 0))])))) (
  up (impl_searching_fail__Rsd_j1 o1 o2 lits))

noncomputable def impl_searching_fail__Rsd (decisions : List Int) (s_1 : Int) (s_3 : Bool) (o1 : List D3_) (o2 : List D6_) : Option ((List D3_) × (List D6_)) :=
 loop (impl_searching_fail__Rsd_l1 decisions o1 o2) ((0:Int), ([] : List Int))

/-- (*impl.searching).visit -/
noncomputable def impl_searching_visit__Rsd_j2 (a1 : List Int) : Int × Bool × (List D3_) × (List D6_) → Option (Bool × Int × Bool × (List Bool) × (List D3_) × (List D6_)) := fun (i_12, i_32, i_02, i_22) =>
 (impl_searching_fail__Rsd a1 i_12 i_32 i_02 i_22).bind fun r9_ =>
 some (false, i_12, i_32, ([] : List Bool), r9_.1, r9_.2)

noncomputable def impl_searching_visit__Rsd_j3 (a1 : List Int) : Int × Bool × (List D3_) × (List D6_) → Option (Bool × Int × Bool × (List Bool) × (List D3_) × (List D6_)) := fun (i_11, i_31, i_01, i_21) =>
 cond (decide ((1000:Int) ≤ (i_21.length:Int))) (
  some (false, i_11, true, ([] : List Bool), i_01, i_21)) (
  impl_searching_visit__Rsd_j2 a1 (i_11, i_31, i_01, i_21))

noncomputable def impl_searching_visit__Rsd_l1 (a1 : List Int) (r4_ : Int × Bool × (List Bool)) (rec_ : (List Int) → Int → Bool → (List D3_) → (List D6_) → Option (Bool × Int × Bool × (List Bool) × (List D3_) × (List D6_))) : Int × Int × Bool × (List D3_) × (List D6_) → Option ((Int × Int × Bool × (List D3_) × (List D6_)) ⊕ (Bool × Int × Bool × (List Bool) × (List D3_) × (List D6_))) := fun (i3, i_1, i_3, i_0, i_2) =>
 cond (decide (i3 < ([r4_.1, (0 - r4_.1)].length:Int))) (
  rq (0 ≤ i3 ∧ i3 < [r4_.1, (0 - r4_.1)].length) <|
  (slices_Clone_int a1).bind fun r7_ =>
  rq (r7_.length + [([r4_.1, (0 - r4_.1)].getD i3.toNat 0)].length ≤ bound) <|
  (rec_ (r7_ ++ [([r4_.1, (0 - r4_.1)].getD i3.toNat 0)]) i_1 i_3 i_0 i_2).bind fun r8_ =>
  cond r8_.1 (
   some (.inr (r8_.1, r8_.2.1, r8_.2.2.1, r8_.2.2.2.1, r8_.2.2.2.2.1, r8_.2.2.2.2.2))) (
   cond r8_.2.2.1 (
    some (.inr (r8_.1, r8_.2.1, r8_.2.2.1, r8_.2.2.2.1, r8_.2.2.2.2.1, r8_.2.2.2.2.2))) (
    rq (i64 (i3 + (1:Int))) <|
    some (.inl ((i3 + (1:Int)), r8_.2.1, r8_.2.2.1, r8_.2.2.2.2.1, r8_.2.2.2.2.2))))) (
  up (impl_searching_visit__Rsd_j3 a1 (i_1, i_3, i_0, i_2)))

noncomputable def impl_searching_visit__Rsd_j1 (a1 : List Int) (o0_1 : Int) (o0_3 : Bool) (o1 : List D3_) (o2 : List D6_) (rec_ : (List Int) → Int → Bool → (List D3_) → (List D6_) → Option (Bool × Int × Bool × (List Bool) × (List D3_) × (List D6_))) : (List Int) → Option (Bool × Int × Bool × (List Bool) × (List D3_) × (List D6_)) := fun i2 =>
 (impl_propagate o1 i2).bind fun r3_ =>
 cond (decide (r3_.1 < (0:Int))) (
  (impl_valuesOf r3_.2).bind fun r4_ =>
  cond r4_.2.1 (
   some (true, (o0_1 - (1:Int)), o0_3, r4_.2.2, o1, o2)) (
   rq (i64 (0 - r4_.1)) <|
   loop (impl_searching_visit__Rsd_l1 a1 r4_ rec_) ((0:Int), (o0_1 - (1:Int)), o0_3, o1, o2))) (
  impl_searching_visit__Rsd_j2 a1 ((o0_1 - (1:Int)), o0_3, o1, o2))

noncomputable def impl_searching_visit__Rsd_l2 (a1 : List Int) (o0_1 : Int) (o0_3 : Bool) (o1 : List D3_) (o2 : List D6_) (rec_ : (List Int) → Int → Bool → (List D3_) → (List D6_) → Option (Bool × Int × Bool × (List Bool) × (List D3_) × (List D6_))) : Int × (List Int) → Option ((Int × (List Int)) ⊕ (Bool × Int × Bool × (List Bool) × (List D3_) × (List D6_))) := fun (i, i1) =>
 cond (decide (i < (a1.length:Int))) (
  rq (0 ≤ i ∧ i < a1.length) <|
  (impl_variableOf (a1.getD i.toNat 0)).bind fun r2_ =>
  rq (i64 (r2_ - (1:Int))) <|
  rq (0 ≤ (r2_ - (1:Int)) ∧ (r2_ - (1:Int)) < i1.length) <|
  cond (decide ((a1.getD i.toNat 0) < (0:Int))) (
   rq (i64 (0 - (a1.getD i.toNat 0))) <|
   rq (i64 ((0 - (a1.getD i.toNat 0)) - (1:Int))) <|
   rq (0 ≤ ((0 - (a1.getD i.toNat 0)) - (1:Int)) ∧ ((0 - (a1.getD i.toNat 0)) - (1:Int)) < (i1.set (r2_ - (1:Int)).toNat (1:Int)).length) <|
   rq (i64 (i + (1:Int))) <|
   some (.inl ((i + (1:Int)), ((i1.set (r2_ - (1:Int)).toNat (1:Int)).set ((0 - (a1.getD i.toNat 0)) - (1:Int)).toNat (-1:Int))))) (
   rq (i64 (i + (1:Int))) <|
   some (.inl ((i + (1:Int)), (i1.set (r2_ - (1:Int)).toNat (1:Int)))))) (
  up (impl_searching_visit__Rsd_j1 a1 o0_1 o0_3 o1 o2 rec_ i1))

noncomputable def impl_searching_visit__Rsd_rec (rec_ : (List Int) → Int → Bool → (List D3_) → (List D6_) → Option (Bool × Int × Bool × (List Bool) × (List D3_) × (List D6_))) (a1 : List Int) (o0_1 : Int) (o0_3 : Bool) (o1 : List D3_) (o2 : List D6_) : Option (Bool × Int × Bool × (List Bool) × (List D3_) × (List D6_)) :=
 cond (o0_1 == (0:Int)) (
  some (false, o0_1, true, ([] : List Bool), o1, o2)) (
  cond (decide ((1000:Int) ≤ (o2.length:Int))) (
   some (false, o0_1, true, ([] : List Bool), o1, o2)) (
   rq (i64 (o0_1 - (1:Int))) <|
   rq (0 ≤ (12:Int) ∧ (12:Int) ≤ bound ∧ (12:Int) = (12:Int)) <|
   loop (impl_searching_visit__Rsd_l2 a1 o0_1 o0_3 o1 o2 rec_) ((0:Int), (List.replicate (12:Int).toNat 0))))

/-- So many calls within calls. -/
noncomputable def impl_searching_visit__Rsd : Nat → (List Int) → Int → Bool → (List D3_) → (List D6_) → Option (Bool × Int × Bool × (List Bool) × (List D3_) × (List D6_))
  | 0 => fun _ _ _ _ _ => none
  | n_ + 1 => impl_searching_visit__Rsd_rec (impl_searching_visit__Rsd n_)

/-- (*impl.searching).visit -/
noncomputable def impl_searching_visit__R0s_j2 (a1 : List Int) : Int × Bool × (List D3_) × (List D6_) → Option (Bool × Int × Bool × (List Bool) × (List D3_) × (List D6_)) := fun (i_12, i_32, i_02, i_22) =>
 (impl_searching_fail__Rsd a1 i_12 i_32 i_02 i_22).bind fun r9_ =>
 some (false, i_12, i_32, ([] : List Bool), r9_.1, r9_.2)

noncomputable def impl_searching_visit__R0s_j3 (a1 : List Int) : Int × Bool × (List D3_) × (List D6_) → Option (Bool × Int × Bool × (List Bool) × (List D3_) × (List D6_)) := fun (i_11, i_31, i_01, i_21) =>
 cond (decide ((1000:Int) ≤ (i_21.length:Int))) (
  some (false, i_11, true, ([] : List Bool), i_01, i_21)) (
  impl_searching_visit__R0s_j2 a1 (i_11, i_31, i_01, i_21))

noncomputable def impl_searching_visit__R0s_l1 (a1 : List Int) (r4_ : Int × Bool × (List Bool)) : Int × Int × Bool × (List D3_) × (List D6_) → Option ((Int × Int × Bool × (List D3_) × (List D6_)) ⊕ (Bool × Int × Bool × (List Bool) × (List D3_) × (List D6_))) := fun (i3, i_1, i_3, i_0, i_2) =>
 cond (decide (i3 < ([r4_.1, (0 - r4_.1)].length:Int))) (
  rq (0 ≤ i3 ∧ i3 < [r4_.1, (0 - r4_.1)].length) <|
  (slices_Clone_int a1).bind fun r7_ =>
  rq (r7_.length + [([r4_.1, (0 - r4_.1)].getD i3.toNat 0)].length ≤ bound) <|
  (impl_searching_visit__Rsd 64 (r7_ ++ [([r4_.1, (0 - r4_.1)].getD i3.toNat 0)]) i_1 i_3 i_0 i_2).bind fun r8_ =>
  cond r8_.1 (
   some (.inr (r8_.1, r8_.2.1, r8_.2.2.1, r8_.2.2.2.1, r8_.2.2.2.2.1, r8_.2.2.2.2.2))) (
   cond r8_.2.2.1 (
    some (.inr (r8_.1, r8_.2.1, r8_.2.2.1, r8_.2.2.2.1, r8_.2.2.2.2.1, r8_.2.2.2.2.2))) (
    rq (i64 (i3 + (1:Int))) <|
    some (.inl ((i3 + (1:Int)), r8_.2.1, r8_.2.2.1, r8_.2.2.2.2.1, r8_.2.2.2.2.2))))) (
  up (impl_searching_visit__R0s_j3 a1 (i_1, i_3, i_0, i_2)))

noncomputable def impl_searching_visit__R0s_j1 (a1 : List Int) (o0_1 : Int) (o0_3 : Bool) (o1 : List D3_) : (List Int) → Option (Bool × Int × Bool × (List Bool) × (List D3_) × (List D6_)) := fun i2 =>
 (impl_propagate o1 i2).bind fun r3_ =>
 cond (decide (r3_.1 < (0:Int))) (
  (impl_valuesOf r3_.2).bind fun r4_ =>
  cond r4_.2.1 (
   some (true, (o0_1 - (1:Int)), o0_3, r4_.2.2, o1, ([] : List D6_))) (
   rq (i64 (0 - r4_.1)) <|
   loop (impl_searching_visit__R0s_l1 a1 r4_) ((0:Int), (o0_1 - (1:Int)), o0_3, o1, ([] : List D6_)))) (
  impl_searching_visit__R0s_j2 a1 ((o0_1 - (1:Int)), o0_3, o1, ([] : List D6_)))

noncomputable def impl_searching_visit__R0s_l2 (a1 : List Int) (o0_1 : Int) (o0_3 : Bool) (o1 : List D3_) : Int × (List Int) → Option ((Int × (List Int)) ⊕ (Bool × Int × Bool × (List Bool) × (List D3_) × (List D6_))) := fun (i, i1) =>
 cond (decide (i < (a1.length:Int))) (
  rq (0 ≤ i ∧ i < a1.length) <|
  (impl_variableOf (a1.getD i.toNat 0)).bind fun r2_ =>
  rq (i64 (r2_ - (1:Int))) <|
  rq (0 ≤ (r2_ - (1:Int)) ∧ (r2_ - (1:Int)) < i1.length) <|
  cond (decide ((a1.getD i.toNat 0) < (0:Int))) (
   rq (i64 (0 - (a1.getD i.toNat 0))) <|
   rq (i64 ((0 - (a1.getD i.toNat 0)) - (1:Int))) <|
   rq (0 ≤ ((0 - (a1.getD i.toNat 0)) - (1:Int)) ∧ ((0 - (a1.getD i.toNat 0)) - (1:Int)) < (i1.set (r2_ - (1:Int)).toNat (1:Int)).length) <|
   rq (i64 (i + (1:Int))) <|
   some (.inl ((i + (1:Int)), ((i1.set (r2_ - (1:Int)).toNat (1:Int)).set ((0 - (a1.getD i.toNat 0)) - (1:Int)).toNat (-1:Int))))) (
   rq (i64 (i + (1:Int))) <|
   some (.inl ((i + (1:Int)), (i1.set (r2_ - (1:Int)).toNat (1:Int)))))) (
  up (impl_searching_visit__R0s_j1 a1 o0_1 o0_3 o1 i1))

noncomputable def impl_searching_visit__R0s_rec (rec_ : (List Int) → Int → Bool → (List D3_) → Option (Bool × Int × Bool × (List Bool) × (List D3_) × (List D6_))) (a1 : List Int) (o0_1 : Int) (o0_3 : Bool) (o1 : List D3_) : Option (Bool × Int × Bool × (List Bool) × (List D3_) × (List D6_)) :=
 cond (o0_1 == (0:Int)) (
  some (false, o0_1, true, ([] : List Bool), o1, ([] : List D6_))) (
  cond (decide ((1000:Int) ≤ (0:Int))) (
   some (false, o0_1, true, ([] : List Bool), o1, ([] : List D6_))) (
   rq (i64 (o0_1 - (1:Int))) <|
   rq (0 ≤ (12:Int) ∧ (12:Int) ≤ bound ∧ (12:Int) = (12:Int)) <|
   loop (impl_searching_visit__R0s_l2 a1 o0_1 o0_3 o1) ((0:Int), (List.replicate (12:Int).toNat 0))))

/-- So many calls within calls. -/
noncomputable def impl_searching_visit__R0s : Nat → (List Int) → Int → Bool → (List D3_) → Option (Bool × Int × Bool × (List Bool) × (List D3_) × (List D6_))
  | 0 => fun _ _ _ _ => none
  | n_ + 1 => impl_searching_visit__R0s_rec (impl_searching_visit__R0s n_)

/-- impl.SolveProblem -/
noncomputable def impl_SolveProblem (list_ : List D3_) (fuel : Int) : Option (Int × (List Bool) × (List D6_)) :=
 (impl_ProblemValid list_).bind fun r1_ =>
 cond (!r1_) (
  some ((3:Int), ([] : List Bool), ([] : List D6_))) (
  (impl_isFuel fuel).bind fun r2_ =>
  cond (!r2_) (
   some ((3:Int), ([] : List Bool), ([] : List D6_))) (
   (slices_Clone_impl_Constraint list_).bind fun r3_ =>
   (impl_searching_visit__R0s 64 ([] : List Int) fuel false r3_).bind fun r4_ =>
   cond r4_.1 (
    some ((1:Int), r4_.2.2.2.1, ([] : List D6_))) (
    cond r4_.2.2.1 (
     some ((0:Int), ([] : List Bool), ([] : List D6_))) (
     some ((2:Int), ([] : List Bool), r4_.2.2.2.2.2)))))

/-- impl.refers -/
noncomputable def impl_refers (kind : Int) : Option (Int × Bool) :=
 cond (kind == (1:Int)) (
  some ((2:Int), false)) (
  cond (kind == (2:Int)) (
   some ((1:Int), true)) (
   cond (kind == (3:Int)) (
    some ((1:Int), true)) (
    cond (kind == (5:Int)) (
     some ((1:Int), true)) (
     cond (kind == (4:Int)) (
      some ((1:Int), false)) (
      cond (kind == (8:Int)) (
       some ((1:Int), false)) (
       cond (kind == (6:Int)) (
        some ((0:Int), false)) (
        cond (kind == (7:Int)) (
         some ((0:Int), false)) (
         some ((-1:Int), false)))))))))

/-- slices.Equal[[]impl.Term,impl.Term] -/
noncomputable def slices_Equal_impl_Term_l1 (s1_ : List D2_) (s2_ : List D2_) : Int → Option (Int ⊕ Bool) := fun i =>
 cond (decide (i < (s1_.length:Int))) (
  rq (0 ≤ i ∧ i < s1_.length) <|
  rq (0 ≤ i ∧ i < s2_.length) <|
  cond (!((s1_.getD i.toNat (0, 0)).1 == (s2_.getD i.toNat (0, 0)).1 && (s1_.getD i.toNat (0, 0)).2 == (s2_.getD i.toNat (0, 0)).2)) (
   some (.inr false)) (
   rq (i64 (i + (1:Int))) <|
   some (.inl (i + (1:Int))))) (
  some (.inr true))

noncomputable def slices_Equal_impl_Term (s1_ : List D2_) (s2_ : List D2_) : Option Bool :=
 cond ((s1_.length:Int) != (s2_.length:Int)) (
  some false) (
  loop (slices_Equal_impl_Term_l1 s1_ s2_) (0:Int))

/-- impl.ConstraintSame -/
noncomputable def impl_ConstraintSame (a : (List D2_) × Int) (b : (List D2_) × Int) : Option Bool :=
 cond (a.2 == b.2) (
  (slices_Equal_impl_Term a.1 b.1).bind fun r1_ =>
  some r1_) (
  some false)

/-- (impl.Step).shaped -/
noncomputable def impl_Step_shaped (s_ : Int × Int × Int × (List D2_) × Int) : Option Bool :=
 (impl_refers s_.1).bind fun r1_ =>
 cond (decide ((0:Int) ≤ r1_.1)) (
  cond (decide ((0:Int) < r1_.1)) (
   cond (r1_.1 == (2:Int)) (
    cond (s_.1 == (7:Int)) (
     some true) (
     (impl_ConstraintSame s_.2.2.2 (([] : List D2_), (0:Int))).bind fun r10_ =>
     some r10_)) (
    cond r1_.2 (
     cond (s_.1 == (7:Int)) (
      some true) (
      (impl_ConstraintSame s_.2.2.2 (([] : List D2_), (0:Int))).bind fun r9_ =>
      some r9_)) (
     cond (s_.2.2.1 == (0:Int)) (
      cond (s_.1 == (7:Int)) (
       some true) (
       (impl_ConstraintSame s_.2.2.2 (([] : List D2_), (0:Int))).bind fun r8_ =>
       some r8_)) (
      some false)))) (
   cond (s_.1 == (6:Int)) (
    cond (r1_.1 == (2:Int)) (
     cond (s_.1 == (7:Int)) (
      some true) (
      (impl_ConstraintSame s_.2.2.2 (([] : List D2_), (0:Int))).bind fun r7_ =>
      some r7_)) (
     cond r1_.2 (
      cond (s_.1 == (7:Int)) (
       some true) (
       (impl_ConstraintSame s_.2.2.2 (([] : List D2_), (0:Int))).bind fun r6_ =>
       some r6_)) (
      cond (s_.2.2.1 == (0:Int)) (
       cond (s_.1 == (7:Int)) (
        some true) (
        (impl_ConstraintSame s_.2.2.2 (([] : List D2_), (0:Int))).bind fun r5_ =>
        some r5_)) (
       some false)))) (
    cond (s_.2.1 == (0:Int)) (
     cond (r1_.1 == (2:Int)) (
      cond (s_.1 == (7:Int)) (
       some true) (
       (impl_ConstraintSame s_.2.2.2 (([] : List D2_), (0:Int))).bind fun r4_ =>
       some r4_)) (
      cond r1_.2 (
       cond (s_.1 == (7:Int)) (
        some true) (
        (impl_ConstraintSame s_.2.2.2 (([] : List D2_), (0:Int))).bind fun r3_ =>
        some r3_)) (
       cond (s_.2.2.1 == (0:Int)) (
        cond (s_.1 == (7:Int)) (
         some true) (
         (impl_ConstraintSame s_.2.2.2 (([] : List D2_), (0:Int))).bind fun r2_ =>
         some r2_)) (
        some false)))) (
     some false)))) (
  some false)

/-- (*impl.running).has -/
noncomputable def impl_running_has__Rss (i : Int) (o1 : List D3_) (o2 : List Bool) : Option Bool :=
 rq (i64 ((o1.length:Int) - (1:Int))) <|
 (impl_within i (0:Int) ((o1.length:Int) - (1:Int))).bind fun r1_ =>
 cond r1_ (
  rq (0 ≤ i ∧ i < o2.length) <|
  some (!(o2.getD i.toNat false))) (
  some false)

/-- slices.Grow[[]impl.Term,impl.Term] -/
noncomputable def slices_Grow_impl_Term (n : Int) : Option (List D2_) :=
 cond (decide (n < (0:Int))) (
  none) (
  rq (i64 ((0:Int) - (0:Int))) <|
  rq (i64 (n - ((0:Int) - (0:Int)))) <|
  cond (decide ((0:Int) < (n - ((0:Int) - (0:Int))))) (
   rq ((0:Int) = 0) <|
   rq (1 ≤ (n - ((0:Int) - (0:Int))) ∧ (n - ((0:Int) - (0:Int))) ≤ bound) <|
   rq (0 ≤ (0:Int) ∧ (0:Int) ≤ (List.replicate (n - ((0:Int) - (0:Int))).toNat (0, 0)).length) <|
   some ((List.replicate (n - ((0:Int) - (0:Int))).toNat (0, 0)).take (0:Int).toNat)) (
   some ([] : List D2_)))

/-- slices.Concat[[]impl.Term,impl.Term] -/
noncomputable def slices_Concat_impl_Term_l2 (slices : List (List D2_)) : Int × (List D2_) → Option ((Int × (List D2_)) ⊕ ((Int × Int) ⊕ (List D2_))) := fun (i1, newslice) =>
 cond (decide (i1 < (slices.length:Int))) (
  rq (0 ≤ i1 ∧ i1 < slices.length) <|
  rq (newslice.length + (slices.getD i1.toNat []).length ≤ bound) <|
  rq (i64 (i1 + (1:Int))) <|
  some (.inl ((i1 + (1:Int)), (newslice ++ (slices.getD i1.toNat []))))) (
  some (.inr (.inr newslice)))

noncomputable def slices_Concat_impl_Term_l1 (slices : List (List D2_)) : Int × Int → Option ((Int × Int) ⊕ (List D2_)) := fun (size, i) =>
 cond (decide (i < (slices.length:Int))) (
  rq (0 ≤ i ∧ i < slices.length) <|
  rq (i64 (size + ((slices.getD i.toNat []).length:Int))) <|
  cond (decide ((size + ((slices.getD i.toNat []).length:Int)) < (0:Int))) (
   none) (
   rq (i64 (i + (1:Int))) <|
   some (.inl ((size + ((slices.getD i.toNat []).length:Int)), (i + (1:Int)))))) (
  (slices_Grow_impl_Term size).bind fun r1_ =>
  loop (slices_Concat_impl_Term_l2 slices) ((0:Int), r1_))

noncomputable def slices_Concat_impl_Term (slices : List (List D2_)) : Option (List D2_) :=
 loop (slices_Concat_impl_Term_l1 slices) ((0:Int), (0:Int))

/-- (impl.Constraint).valid -/
noncomputable def impl_Constraint_valid__s (c_1 : Int) (o0 : List D2_) : Option (Bool × Int × (List D2_)) :=
 (impl_ConstraintValid (o0, c_1)).bind fun r1_ =>
 cond (!r1_) (
  some (false, (0:Int), ([] : List D2_))) (
  some (true, c_1, o0))

/-- impl.normal -/
noncomputable def impl_normal_j2 : Int × (List D2_) → Option (Bool × Int × (List D2_)) := fun (i9, i_03) =>
 (impl_Constraint_valid__s (max (0:Int) i9) i_03).bind fun r1_ =>
 some (r1_.1, r1_.2.1, r1_.2.2)

noncomputable def impl_normal_j3 (i5 : Int) (i6 : Int) : Int × (List D2_) → Option ((Int × Int × (List D2_)) ⊕ (Bool × Int × (List D2_))) := fun (i8, i_02) =>
 rq (i64 (i5 - i8)) <|
 rq (i64 (i6 + (1:Int))) <|
 some (.inl ((i5 - i8), (i6 + (1:Int)), i_02))

noncomputable def impl_normal_l1 (i4 : List Int) : Int × Int × (List D2_) → Option ((Int × Int × (List D2_)) ⊕ (Bool × Int × (List D2_))) := fun (i5, i6, i_01) =>
 cond (decide (i6 < (13:Int))) (
  rq ((0 ≤ i6 ∧ i6 < 13) ∧ 13 ≤ [(i4.getD 0 0), (i4.getD 1 0), (i4.getD 2 0), (i4.getD 3 0), (i4.getD 4 0), (i4.getD 5 0), (i4.getD 6 0), (i4.getD 7 0), (i4.getD 8 0), (i4.getD 9 0), (i4.getD 10 0), (i4.getD 11 0), (i4.getD 12 0)].length) <|
  cond (decide ((0:Int) < ([(i4.getD 0 0), (i4.getD 1 0), (i4.getD 2 0), (i4.getD 3 0), (i4.getD 4 0), (i4.getD 5 0), (i4.getD 6 0), (i4.getD 7 0), (i4.getD 8 0), (i4.getD 9 0), (i4.getD 10 0), (i4.getD 11 0), (i4.getD 12 0)].getD i6.toNat 0))) (
   rq (i_01.length + [(([(i4.getD 0 0), (i4.getD 1 0), (i4.getD 2 0), (i4.getD 3 0), (i4.getD 4 0), (i4.getD 5 0), (i4.getD 6 0), (i4.getD 7 0), (i4.getD 8 0), (i4.getD 9 0), (i4.getD 10 0), (i4.getD 11 0), (i4.getD 12 0)].getD i6.toNat 0), i6)].length ≤ bound) <|
   rq (i64 (i6 + (1:Int))) <|
   some (.inl (i5, (i6 + (1:Int)), (i_01 ++ [(([(i4.getD 0 0), (i4.getD 1 0), (i4.getD 2 0), (i4.getD 3 0), (i4.getD 4 0), (i4.getD 5 0), (i4.getD 6 0), (i4.getD 7 0), (i4.getD 8 0), (i4.getD 9 0), (i4.getD 10 0), (i4.getD 11 0), (i4.getD 12 0)].getD i6.toNat 0), i6)])))) (
   cond (decide (([(i4.getD 0 0), (i4.getD 1 0), (i4.getD 2 0), (i4.getD 3 0), (i4.getD 4 0), (i4.getD 5 0), (i4.getD 6 0), (i4.getD 7 0), (i4.getD 8 0), (i4.getD 9 0), (i4.getD 10 0), (i4.getD 11 0), (i4.getD 12 0)].getD i6.toNat 0) < (0:Int))) (
    rq (i64 (0 - ([(i4.getD 0 0), (i4.getD 1 0), (i4.getD 2 0), (i4.getD 3 0), (i4.getD 4 0), (i4.getD 5 0), (i4.getD 6 0), (i4.getD 7 0), (i4.getD 8 0), (i4.getD 9 0), (i4.getD 10 0), (i4.getD 11 0), (i4.getD 12 0)].getD i6.toNat 0))) <|
    rq (i64 (0 - i6)) <|
    rq (i_01.length + [((0 - ([(i4.getD 0 0), (i4.getD 1 0), (i4.getD 2 0), (i4.getD 3 0), (i4.getD 4 0), (i4.getD 5 0), (i4.getD 6 0), (i4.getD 7 0), (i4.getD 8 0), (i4.getD 9 0), (i4.getD 10 0), (i4.getD 11 0), (i4.getD 12 0)].getD i6.toNat 0)), (0 - i6))].length ≤ bound) <|
    impl_normal_j3 i5 i6 (([(i4.getD 0 0), (i4.getD 1 0), (i4.getD 2 0), (i4.getD 3 0), (i4.getD 4 0), (i4.getD 5 0), (i4.getD 6 0), (i4.getD 7 0), (i4.getD 8 0), (i4.getD 9 0), (i4.getD 10 0), (i4.getD 11 0), (i4.getD 12 0)].getD i6.toNat 0), (i_01 ++ [((0 - ([(i4.getD 0 0), (i4.getD 1 0), (i4.getD 2 0), (i4.getD 3 0), (i4.getD 4 0), (i4.getD 5 0), (i4.getD 6 0), (i4.getD 7 0), (i4.getD 8 0), (i4.getD 9 0), (i4.getD 10 0), (i4.getD 11 0), (i4.getD 12 0)].getD i6.toNat 0)), (0 - i6))]))) (
    rq (i64 (i6 + (1:Int))) <|
    some (.inl (i5, (i6 + (1:Int)), i_01))))) (
  up (impl_normal_j2 (i5, i_01)))

noncomputable def impl_normal_j1 : Int × (List Int) → Option (Bool × Int × (List D2_)) := fun (i3, i4) =>
 rq ((0:Int) = 0 ∧ 0 = 0 ∧ 13 ≤ i4.length) <|
 loop (impl_normal_l1 i4) (i3, (0:Int), ([] : List D2_))

noncomputable def impl_normal_l2 (a0 : List D2_) : Int × Int × (List Int) → Option ((Int × Int × (List Int)) ⊕ (Bool × Int × (List D2_))) := fun (i, i1, i2) =>
 cond (decide (i1 < (a0.length:Int))) (
  rq (0 ≤ i1 ∧ i1 < a0.length) <|
  cond (decide ((a0.getD i1.toNat (0, 0)).2 < (0:Int))) (
   rq (i64 (i - (a0.getD i1.toNat (0, 0)).1)) <|
   rq (i64 (0 - (a0.getD i1.toNat (0, 0)).2)) <|
   rq ((0:Int) = 0 ∧ (0 ≤ (0 - (a0.getD i1.toNat (0, 0)).2) ∧ (0 - (a0.getD i1.toNat (0, 0)).2) < 13) ∧ 13 ≤ i2.length) <|
   rq (i64 ((i2.getD (0 - (a0.getD i1.toNat (0, 0)).2).toNat 0) - (a0.getD i1.toNat (0, 0)).1)) <|
   rq ((0:Int) = 0 ∧ (0 ≤ (0 - (a0.getD i1.toNat (0, 0)).2) ∧ (0 - (a0.getD i1.toNat (0, 0)).2) < 13) ∧ 13 ≤ i2.length) <|
   rq (i64 (i1 + (1:Int))) <|
   some (.inl ((i - (a0.getD i1.toNat (0, 0)).1), (i1 + (1:Int)), (i2.set (0 - (a0.getD i1.toNat (0, 0)).2).toNat ((i2.getD (0 - (a0.getD i1.toNat (0, 0)).2).toNat 0) - (a0.getD i1.toNat (0, 0)).1))))) (
   rq ((0:Int) = 0 ∧ (0 ≤ (a0.getD i1.toNat (0, 0)).2 ∧ (a0.getD i1.toNat (0, 0)).2 < 13) ∧ 13 ≤ i2.length) <|
   rq (i64 ((i2.getD (a0.getD i1.toNat (0, 0)).2.toNat 0) + (a0.getD i1.toNat (0, 0)).1)) <|
   rq ((0:Int) = 0 ∧ (0 ≤ (a0.getD i1.toNat (0, 0)).2 ∧ (a0.getD i1.toNat (0, 0)).2 < 13) ∧ 13 ≤ i2.length) <|
   rq (i64 (i1 + (1:Int))) <|
   some (.inl (i, (i1 + (1:Int)), (i2.set (a0.getD i1.toNat (0, 0)).2.toNat ((i2.getD (a0.getD i1.toNat (0, 0)).2.toNat 0) + (a0.getD i1.toNat (0, 0)).1)))))) (
  up (impl_normal_j1 (i, i2)))

noncomputable def impl_normal (a0 : List D2_) (a1 : Int) : Option (Bool × Int × (List D2_)) :=
 loop (impl_normal_l2 a0) (a1, (0:Int), (List.replicate 13 0))

/-- impl.AddConstraints -/
noncomputable def impl_AddConstraints_j1 (a : (List D2_) × Int) (b : (List D2_) × Int) : Unit → Option (Bool × Int × (List D2_)) := fun _ =>
 (impl_ConstraintValid a).bind fun r1_ =>
 cond (!r1_) (
  some (false, (0:Int), ([] : List D2_))) (
  (impl_ConstraintValid b).bind fun r2_ =>
  cond (!r2_) (
   some (false, (0:Int), ([] : List D2_))) (
   rq (i64 (a.2 + b.2)) <|
   (slices_Concat_impl_Term [a.1, b.1]).bind fun r5_ =>
   (impl_normal r5_ (a.2 + b.2)).bind fun r6_ =>
   some (r6_.1, r6_.2.1, r6_.2.2)))

noncomputable def impl_AddConstraints (a : (List D2_) × Int) (b : (List D2_) × Int) : Option (Bool × Int × (List D2_)) :=
 impl_AddConstraints_j1 a b ()

/-- impl.MultiplyConstraint$1 -/
noncomputable def impl_MultiplyConstraint_1 (n : Int) (o0 : Int) : Option Int :=
 rq (i64 (n * o0)) <|
 some (n * o0)

/-- (impl.Constraint).valid -/
noncomputable def impl_Constraint_valid (c_ : (List D2_) × Int) : Option (Bool × (List D2_) × Int) :=
 (impl_ConstraintValid c_).bind fun r1_ =>
 cond (!r1_) (
  some (false, ([] : List D2_), (0:Int))) (
  some (true, c_.1, c_.2))

/-- (impl.Constraint).changed -/
noncomputable def impl_Constraint_changed__impl_MultiplyConstraint_1_j1 (r2_ : Int) : (List D2_) → Option (Bool × D3_) := fun out_01 =>
 (impl_Constraint_valid (out_01, r2_)).bind fun r6_ =>
 some (r6_.1, r6_.2)

noncomputable def impl_Constraint_changed__impl_MultiplyConstraint_1_l1 (o0 : Int) (r1_ : Int × (List D2_)) (r2_ : Int) : Int × (List D2_) → Option ((Int × (List D2_)) ⊕ (Bool × D3_)) := fun (i, out_0) =>
 cond (decide (i < (r1_.2.length:Int))) (
  rq (0 ≤ i ∧ i < out_0.length) <|
  (impl_MultiplyConstraint_1 (out_0.getD i.toNat (0, 0)).1 o0).bind fun r5_ =>
  rq (0 ≤ i ∧ i < out_0.length) <|
  rq (i64 (i + (1:Int))) <|
  some (.inl ((i + (1:Int)), (out_0.set i.toNat (r5_, (out_0.getD i.toNat (0, 0)).2))))) (
  up (impl_Constraint_changed__impl_MultiplyConstraint_1_j1 r2_ out_0))

noncomputable def impl_Constraint_changed__impl_MultiplyConstraint_1 (c_ : (List D2_) × Int) (o0 : Int) : Option (Bool × D3_) :=
 (impl_Constraint_own c_).bind fun r1_ =>
 (impl_MultiplyConstraint_1 c_.2 o0).bind fun r2_ =>
 loop (impl_Constraint_changed__impl_MultiplyConstraint_1_l1 o0 r1_ r2_) ((0:Int), r1_.2)

/-- impl.MultiplyConstraint -/
noncomputable def impl_MultiplyConstraint (c_ : (List D2_) × Int) (k_ : Int) : Option (Bool × (List D2_) × Int) :=
 (impl_ConstraintValid c_).bind fun r1_ =>
 cond (!r1_) (
  some (false, ([] : List D2_), (0:Int))) (
  (impl_within k_ (1:Int) (1000:Int)).bind fun r2_ =>
  cond (!r2_) (
   some (false, ([] : List D2_), (0:Int))) (
   (impl_Constraint_changed__impl_MultiplyConstraint_1 c_ k_).bind fun r3_ =>
   some (r3_.1, r3_.2.1, r3_.2.2)))

/-- impl.DivideConstraint$1 -/
noncomputable def impl_DivideConstraint_1 (n : Int) (o0 : Int) : Option Int :=
 rq (i64 (n + o0)) <|
 rq (i64 ((n + o0) - (1:Int))) <|
 rq (1 ≤ o0 ∧ 0 ≤ ((n + o0) - (1:Int))) <|
 some (((n + o0) - (1:Int)) / o0)

/-- (impl.Constraint).changed -/
noncomputable def impl_Constraint_changed__impl_DivideConstraint_1_j1 (r2_ : Int) : (List D2_) → Option (Bool × D3_) := fun out_01 =>
 (impl_Constraint_valid (out_01, r2_)).bind fun r6_ =>
 some (r6_.1, r6_.2)

noncomputable def impl_Constraint_changed__impl_DivideConstraint_1_l1 (o0 : Int) (r1_ : Int × (List D2_)) (r2_ : Int) : Int × (List D2_) → Option ((Int × (List D2_)) ⊕ (Bool × D3_)) := fun (i, out_0) =>
 cond (decide (i < (r1_.2.length:Int))) (
  rq (0 ≤ i ∧ i < out_0.length) <|
  (impl_DivideConstraint_1 (out_0.getD i.toNat (0, 0)).1 o0).bind fun r5_ =>
  rq (0 ≤ i ∧ i < out_0.length) <|
  rq (i64 (i + (1:Int))) <|
  some (.inl ((i + (1:Int)), (out_0.set i.toNat (r5_, (out_0.getD i.toNat (0, 0)).2))))) (
  up (impl_Constraint_changed__impl_DivideConstraint_1_j1 r2_ out_0))

noncomputable def impl_Constraint_changed__impl_DivideConstraint_1 (c_ : (List D2_) × Int) (o0 : Int) : Option (Bool × D3_) :=
 (impl_Constraint_own c_).bind fun r1_ =>
 (impl_DivideConstraint_1 c_.2 o0).bind fun r2_ =>
 loop (impl_Constraint_changed__impl_DivideConstraint_1_l1 o0 r1_ r2_) ((0:Int), r1_.2)

/-- impl.DivideConstraint -/
noncomputable def impl_DivideConstraint (c_ : (List D2_) × Int) (k_ : Int) : Option (Bool × (List D2_) × Int) :=
 (impl_ConstraintValid c_).bind fun r1_ =>
 cond (!r1_) (
  some (false, ([] : List D2_), (0:Int))) (
  (impl_within k_ (1:Int) (1000:Int)).bind fun r2_ =>
  cond (!r2_) (
   some (false, ([] : List D2_), (0:Int))) (
   (impl_Constraint_changed__impl_DivideConstraint_1 c_ k_).bind fun r3_ =>
   some (r3_.1, r3_.2.1, r3_.2.2)))

/-- impl.SaturateConstraint -/
noncomputable def impl_SaturateConstraint_l1 (c_ : (List D2_) × Int) : Int × (List D2_) → Option ((Int × (List D2_)) ⊕ (Bool × Int × (List D2_))) := fun (i, out_0) =>
 cond (decide (i < (c_.1.length:Int))) (
  rq (0 ≤ i ∧ i < c_.1.length) <|
  rq (out_0.length + [((min (c_.1.getD i.toNat (0, 0)).1 c_.2), (c_.1.getD i.toNat (0, 0)).2)].length ≤ bound) <|
  rq (i64 (i + (1:Int))) <|
  some (.inl ((i + (1:Int)), (out_0 ++ [((min (c_.1.getD i.toNat (0, 0)).1 c_.2), (c_.1.getD i.toNat (0, 0)).2)])))) (
  some (.inr (true, c_.2, out_0)))

noncomputable def impl_SaturateConstraint (c_ : (List D2_) × Int) : Option (Bool × Int × (List D2_)) :=
 (impl_ConstraintValid c_).bind fun r1_ =>
 cond (!r1_) (
  some (false, (0:Int), ([] : List D2_))) (
  cond (decide ((0:Int) < c_.2)) (
   loop (impl_SaturateConstraint_l1 c_) ((0:Int), ([] : List D2_))) (
   some (true, c_.2, ([] : List D2_))))

/-- impl.WeakenConstraint -/
noncomputable def impl_WeakenConstraint_l1 (c_ : (List D2_) × Int) (variable_ : Int) : Int × Int × (List D2_) → Option ((Int × Int × (List D2_)) ⊕ (Bool × Int × (List D2_))) := fun (i, out_1, out_0) =>
 cond (decide (i < (c_.1.length:Int))) (
  rq (0 ≤ i ∧ i < c_.1.length) <|
  (impl_variableOf (c_.1.getD i.toNat (0, 0)).2).bind fun r4_ =>
  cond (r4_ == variable_) (
   rq (i64 (c_.2 - (c_.1.getD i.toNat (0, 0)).1)) <|
   rq (i64 (i + (1:Int))) <|
   some (.inl ((i + (1:Int)), (max (0:Int) (c_.2 - (c_.1.getD i.toNat (0, 0)).1)), out_0))) (
   rq (out_0.length + [(c_.1.getD i.toNat (0, 0))].length ≤ bound) <|
   rq (i64 (i + (1:Int))) <|
   some (.inl ((i + (1:Int)), out_1, (out_0 ++ [(c_.1.getD i.toNat (0, 0))]))))) (
  some (.inr (true, out_1, out_0)))

noncomputable def impl_WeakenConstraint (c_ : (List D2_) × Int) (variable_ : Int) : Option (Bool × Int × (List D2_)) :=
 (impl_ConstraintValid c_).bind fun r1_ =>
 cond (!r1_) (
  some (false, (0:Int), ([] : List D2_))) (
  (impl_within variable_ (1:Int) (12:Int)).bind fun r2_ =>
  cond (!r2_) (
   some (false, (0:Int), ([] : List D2_))) (
   loop (impl_WeakenConstraint_l1 c_ variable_) ((0:Int), c_.2, ([] : List D2_))))

/-- impl.LiteralAxiom -/
noncomputable def impl_LiteralAxiom (lit : Int) : Option (Bool × Int × (List D2_)) :=
 (impl_isLiteral lit).bind fun r1_ =>
 cond (!r1_) (
  some (false, (0:Int), ([] : List D2_))) (
  some (true, (0:Int), [((1:Int), lit)]))

/-- (*impl.running).left -/
noncomputable def impl_running_left__Rss_l1 (o1 : List D3_) (o2 : List Bool) : Int × (List D3_) → Option ((Int × (List D3_)) ⊕ (List D3_)) := fun (i, out) =>
 cond (decide (i < (o1.length:Int))) (
  rq (0 ≤ i ∧ i < o1.length) <|
  rq (0 ≤ i ∧ i < o2.length) <|
  cond (!(o2.getD i.toNat false)) (
   rq (out.length + [(o1.getD i.toNat ([], 0))].length ≤ bound) <|
   rq (i64 (i + (1:Int))) <|
   some (.inl ((i + (1:Int)), (out ++ [(o1.getD i.toNat ([], 0))])))) (
   rq (i64 (i + (1:Int))) <|
   some (.inl ((i + (1:Int)), out)))) (
  some (.inr out))

noncomputable def impl_running_left__Rss (o1 : List D3_) (o2 : List Bool) : Option (List D3_) :=
 loop (impl_running_left__Rss_l1 o1 o2) ((0:Int), ([] : List D3_))

/-- (impl.Constraint).total -/
noncomputable def impl_Constraint_total_l1 (c_ : (List D2_) × Int) : Int × Int → Option ((Int × Int) ⊕ Int) := fun (sum, i) =>
 cond (decide (i < (c_.1.length:Int))) (
  rq (0 ≤ i ∧ i < c_.1.length) <|
  rq (i64 (sum + (c_.1.getD i.toNat (0, 0)).1)) <|
  rq (i64 (i + (1:Int))) <|
  some (.inl ((sum + (c_.1.getD i.toNat (0, 0)).1), (i + (1:Int))))) (
  some (.inr sum))

noncomputable def impl_Constraint_total (c_ : (List D2_) × Int) : Option Int :=
 loop (impl_Constraint_total_l1 c_) ((0:Int), (0:Int))

/-- (impl.Constraint).negation -/
noncomputable def impl_Constraint_negation_j3 (c_ : (List D2_) × Int) (i : Int) (out_0 : List D2_) : Unit → Option ((Int × (List D2_)) ⊕ (Int × (List D2_))) := fun _ =>
 rq (i64 (0 - (c_.1.getD i.toNat (0, 0)).2)) <|
 rq (out_0.length + [((c_.1.getD i.toNat (0, 0)).1, (0 - (c_.1.getD i.toNat (0, 0)).2))].length ≤ bound) <|
 rq (i64 (i + (1:Int))) <|
 some (.inl ((i + (1:Int)), (out_0 ++ [((c_.1.getD i.toNat (0, 0)).1, (0 - (c_.1.getD i.toNat (0, 0)).2))])))

noncomputable def impl_Constraint_negation_l1 (c_ : (List D2_) × Int) (out_1 : Int) : Int × (List D2_) → Option ((Int × (List D2_)) ⊕ (Int × (List D2_))) := fun (i, out_0) =>
 cond (decide (i < (c_.1.length:Int))) (
  rq (0 ≤ i ∧ i < c_.1.length) <|
  impl_Constraint_negation_j3 c_ i out_0 ()) (
  some (.inr (out_1, out_0)))

noncomputable def impl_Constraint_negation_j2 (c_ : (List D2_) × Int) : Int → Option (Int × (List D2_)) := fun out_1 =>
 loop (impl_Constraint_negation_l1 c_ out_1) ((0:Int), ([] : List D2_))

noncomputable def impl_Constraint_negation_j1 (c_ : (List D2_) × Int) : Unit → Option (Int × (List D2_)) := fun _ =>
 (impl_Constraint_total c_).bind fun r2_ =>
 rq (i64 (r2_ - c_.2)) <|
 rq (i64 ((r2_ - c_.2) + (1:Int))) <|
 impl_Constraint_negation_j2 c_ (max (0:Int) ((r2_ - c_.2) + (1:Int)))

noncomputable def impl_Constraint_negation (c_ : (List D2_) × Int) : Option (Int × (List D2_)) :=
 impl_Constraint_negation_j1 c_ ()

/-- impl.rup -/
noncomputable def impl_rup_j1 : Int → Option Bool := fun i =>
 some (decide ((0:Int) ≤ i))

noncomputable def impl_rup (list_ : List D3_) (c_ : (List D2_) × Int) : Option Bool :=
 (slices_Clone_impl_Constraint list_).bind fun r4_ =>
 (impl_Constraint_negation c_).bind fun r5_ =>
 rq (r4_.length + [(r5_.2, r5_.1)].length ≤ bound) <|
 rq (0 ≤ (12:Int) ∧ (12:Int) ≤ bound ∧ (12:Int) = (12:Int)) <|
 (impl_propagate (r4_ ++ [(r5_.2, r5_.1)]) (List.replicate (12:Int).toNat 0)).bind fun r6_ =>
 impl_rup_j1 r6_.1

/-- (*impl.running).step -/
noncomputable def impl_running_step__Rss_j4 (o1 : List D3_) (o2 : List Bool) (i : (List D2_) × Int) (i1 : Bool) : Unit → Option (Bool × (List D3_) × (List Bool)) := fun _ =>
 some (i1, (o1 ++ [i]), (o2 ++ [false]))

noncomputable def impl_running_step__Rss_j3 (o1 : List D3_) (o2 : List Bool) : D3_ × Bool → Option (Bool × (List D3_) × (List Bool)) := fun (i, i1) =>
 rq (o1.length + [i].length ≤ bound) <|
 rq (o2.length + [false].length ≤ bound) <|
 impl_running_step__Rss_j4 o1 o2 i i1 ()

noncomputable def impl_running_step__Rss_j2 (a1 : Int × Int × Int × (List D2_) × Int) (o1 : List D3_) (o2 : List Bool) : Unit → Option (Bool × (List D3_) × (List Bool)) := fun _ =>
 cond (a1.1 == (8:Int)) (
  rq (0 ≤ a1.2.1 ∧ a1.2.1 < o2.length) <|
  some (true, o1, (o2.set a1.2.1.toNat true))) (
  cond (a1.1 == (1:Int)) (
   rq (0 ≤ a1.2.1 ∧ a1.2.1 < o1.length) <|
   rq (0 ≤ a1.2.2.1 ∧ a1.2.2.1 < o1.length) <|
   (impl_AddConstraints (o1.getD a1.2.1.toNat ([], 0)) (o1.getD a1.2.2.1.toNat ([], 0))).bind fun r7_ =>
   impl_running_step__Rss_j3 o1 o2 ((r7_.2.2, r7_.2.1), r7_.1)) (
   cond (a1.1 == (2:Int)) (
    rq (0 ≤ a1.2.1 ∧ a1.2.1 < o1.length) <|
    (impl_MultiplyConstraint (o1.getD a1.2.1.toNat ([], 0)) a1.2.2.1).bind fun r9_ =>
    impl_running_step__Rss_j3 o1 o2 (r9_.2, r9_.1)) (
    cond (a1.1 == (3:Int)) (
     rq (0 ≤ a1.2.1 ∧ a1.2.1 < o1.length) <|
     (impl_DivideConstraint (o1.getD a1.2.1.toNat ([], 0)) a1.2.2.1).bind fun r11_ =>
     impl_running_step__Rss_j3 o1 o2 (r11_.2, r11_.1)) (
     cond (a1.1 == (4:Int)) (
      rq (0 ≤ a1.2.1 ∧ a1.2.1 < o1.length) <|
      (impl_SaturateConstraint (o1.getD a1.2.1.toNat ([], 0))).bind fun r13_ =>
      impl_running_step__Rss_j3 o1 o2 ((r13_.2.2, r13_.2.1), r13_.1)) (
      cond (a1.1 == (5:Int)) (
       rq (0 ≤ a1.2.1 ∧ a1.2.1 < o1.length) <|
       (impl_WeakenConstraint (o1.getD a1.2.1.toNat ([], 0)) a1.2.2.1).bind fun r15_ =>
       impl_running_step__Rss_j3 o1 o2 ((r15_.2.2, r15_.2.1), r15_.1)) (
       cond (a1.1 == (6:Int)) (
        (impl_LiteralAxiom a1.2.1).bind fun r16_ =>
        impl_running_step__Rss_j3 o1 o2 ((r16_.2.2, r16_.2.1), r16_.1)) (
        cond (a1.1 == (7:Int)) (
         (impl_ConstraintValid a1.2.2.2).bind fun r20_ =>
         cond r20_ (
          (impl_running_left__Rss o1 o2).bind fun r21_ =>
          (impl_rup r21_ a1.2.2.2).bind fun r22_ =>
          impl_running_step__Rss_j3 o1 o2 (a1.2.2.2, r22_)) (
          impl_running_step__Rss_j3 o1 o2 (a1.2.2.2, false))) (
         impl_running_step__Rss_j3 o1 o2 ((([] : List D2_), (0:Int)), false)))))))))

noncomputable def impl_running_step__Rss_j1 (a1 : Int × Int × Int × (List D2_) × Int) (o1 : List D3_) (o2 : List Bool) : Unit → Option (Bool × (List D3_) × (List Bool)) := fun _ =>
 (impl_refers a1.1).bind fun r1_ =>
 (impl_Step_shaped a1).bind fun r2_ =>
 cond (!r2_) (
  some (false, o1, o2)) (
  cond (decide ((0:Int) < r1_.1)) (
   (impl_running_has__Rss a1.2.1 o1 o2).bind fun r3_ =>
   cond (!r3_) (
    some (false, o1, o2)) (
    cond (decide ((1:Int) < r1_.1)) (
     (impl_running_has__Rss a1.2.2.1 o1 o2).bind fun r4_ =>
     cond (!r4_) (
      some (false, o1, o2)) (
      impl_running_step__Rss_j2 a1 o1 o2 ())) (
     impl_running_step__Rss_j2 a1 o1 o2 ()))) (
   cond (decide ((1:Int) < r1_.1)) (
    (impl_running_has__Rss a1.2.2.1 o1 o2).bind fun r5_ =>
    cond (!r5_) (
     some (false, o1, o2)) (
     impl_running_step__Rss_j2 a1 o1 o2 ())) (
    impl_running_step__Rss_j2 a1 o1 o2 ())))

noncomputable def impl_running_step__Rss (a1 : Int × Int × Int × (List D2_) × Int) (o1 : List D3_) (o2 : List Bool) : Option (Bool × (List D3_) × (List Bool)) :=
 impl_running_step__Rss_j1 a1 o1 o2 ()

/-- impl.run -/
noncomputable def impl_run_l1 (steps : List D6_) : Int × (List D3_) × (List Bool) → Option ((Int × (List D3_) × (List Bool)) ⊕ (Bool × Int × (List D3_) × (List Bool) × Int)) := fun (i, r_01, r_1) =>
 cond (decide (i < (steps.length:Int))) (
  rq (0 ≤ i ∧ i < steps.length) <|
  (impl_running_step__Rss (steps.getD i.toNat (0, (0, (0, ([], 0))))) r_01 r_1).bind fun r5_ =>
  cond (!r5_.1) (
   some (.inr (false, 0, [], [], i))) (
   rq (i64 (i + (1:Int))) <|
   some (.inl ((i + (1:Int)), r5_.2.1, r5_.2.2)))) (
  some (.inr (true, (-1:Int), r_01, r_1, 0)))

noncomputable def impl_run_j1 (list_ : List D3_) (steps : List D6_) : (List D3_) → Option (Bool × Int × (List D3_) × (List Bool) × Int) := fun r_0 =>
 loop (impl_run_l1 steps) ((0:Int), r_0, (List.replicate (list_.length:Int).toNat false))

noncomputable def impl_run (list_ : List D3_) (steps : List D6_) : Option (Bool × Int × (List D3_) × (List Bool) × Int) :=
 (impl_ProblemValid list_).bind fun r1_ =>
 cond (!r1_) (
  some (false, 0, [], [], (0:Int))) (
  cond (decide ((1000:Int) < (steps.length:Int))) (
   some (false, 0, [], [], (0:Int))) (
   (slices_Clone_impl_Constraint list_).bind fun r3_ =>
   rq (0 ≤ (list_.length:Int) ∧ (list_.length:Int) ≤ bound ∧ (list_.length:Int) = (list_.length:Int)) <|
   impl_run_j1 list_ steps r3_))

/-- impl.ConstraintFalse -/
noncomputable def impl_ConstraintFalse (c_ : (List D2_) × Int) : Option Bool :=
 (impl_ConstraintValid c_).bind fun r3_ =>
 cond r3_ (
  (impl_Constraint_total c_).bind fun r4_ =>
  some (decide (r4_ < c_.2))) (
  some false)

/-- impl.refuting -/
noncomputable def impl_refuting_l1 (r1_ : Bool × Int × (List D3_) × (List Bool) × Int) : Int → Option (Int ⊕ (Bool × Int × (List D3_) × (List Bool) × Int)) := fun i =>
 cond (decide (i < (r1_.2.2.1.length:Int))) (
  rq (0 ≤ i ∧ i < r1_.2.2.1.length) <|
  rq (0 ≤ i ∧ i < r1_.2.2.2.1.length) <|
  cond (!(r1_.2.2.2.1.getD i.toNat false)) (
   (impl_ConstraintFalse (r1_.2.2.1.getD i.toNat ([], 0))).bind fun r2_ =>
   cond r2_ (
    some (.inr (true, i, r1_.2.2.1, r1_.2.2.2.1, 0))) (
    rq (i64 (i + (1:Int))) <|
    some (.inl (i + (1:Int))))) (
   rq (i64 (i + (1:Int))) <|
   some (.inl (i + (1:Int))))) (
  some (.inr (true, (-1:Int), r1_.2.2.1, r1_.2.2.2.1, 0)))

noncomputable def impl_refuting (list_ : List D3_) (steps : List D6_) : Option (Bool × Int × (List D3_) × (List Bool) × Int) :=
 (impl_run list_ steps).bind fun r1_ =>
 cond r1_.1 (
  cond (decide ((0:Int) ≤ r1_.2.1)) (
   some (false, 0, [], [], (-1:Int))) (
   loop (impl_refuting_l1 r1_) (0:Int))) (
  cond (decide ((0:Int) ≤ r1_.2.2.2.2)) (
   some (false, 0, [], [], (-1:Int))) (
   none))

/-- impl.needed -/
noncomputable def impl_needed_l2 (i3 : Int) : Int × (List Bool) → Option ((Int × (List Bool)) ⊕ ((Int × (List Bool)) ⊕ (Bool × (List Bool)))) := fun (i8, i9) =>
 cond (decide (i8 < i3)) (
  rq (0 ≤ i8 ∧ i8 < i9.length) <|
  rq (i64 (i8 + (1:Int))) <|
  some (.inl ((i8 + (1:Int)), (i9.set i8.toNat true)))) (
  rq (i64 (i3 - (1:Int))) <|
  some (.inr (.inl ((i3 - (1:Int)), i9))))

noncomputable def impl_needed_j2 (a0 : List D3_) (i2 : List D6_) (i3 : Int) (i7 : List Bool) (r3_ : Int × Bool) : Unit → Option ((Int × (List Bool)) ⊕ (Bool × (List Bool))) := fun _ =>
 cond (decide ((1:Int) < r3_.1)) (
  rq (0 ≤ (i2.getD (i3 - (a0.length:Int)).toNat (0, (0, (0, ([], 0))))).2.2.1 ∧ (i2.getD (i3 - (a0.length:Int)).toNat (0, (0, (0, ([], 0))))).2.2.1 < (i7.set (i2.getD (i3 - (a0.length:Int)).toNat (0, (0, (0, ([], 0))))).2.1.toNat true).length) <|
  rq (i64 (i3 - (1:Int))) <|
  some (.inl ((i3 - (1:Int)), ((i7.set (i2.getD (i3 - (a0.length:Int)).toNat (0, (0, (0, ([], 0))))).2.1.toNat true).set (i2.getD (i3 - (a0.length:Int)).toNat (0, (0, (0, ([], 0))))).2.2.1.toNat true)))) (
  rq (i64 (i3 - (1:Int))) <|
  some (.inl ((i3 - (1:Int)), (i7.set (i2.getD (i3 - (a0.length:Int)).toNat (0, (0, (0, ([], 0))))).2.1.toNat true))))

noncomputable def impl_needed_l1 (a0 : List D3_) (i2 : List D6_) : Int × (List Bool) → Option ((Int × (List Bool)) ⊕ (Bool × (List Bool))) := fun (i3, i7) =>
 cond (decide ((a0.length:Int) ≤ i3)) (
  rq (i64 (i3 - (a0.length:Int))) <|
  rq (0 ≤ (i3 - (a0.length:Int)) ∧ (i3 - (a0.length:Int)) < i2.length) <|
  (impl_refers (i2.getD (i3 - (a0.length:Int)).toNat (0, (0, (0, ([], 0))))).1).bind fun r3_ =>
  rq (0 ≤ i3 ∧ i3 < i7.length) <|
  cond (!(i7.getD i3.toNat false)) (
   rq (i64 (i3 - (1:Int))) <|
   some (.inl ((i3 - (1:Int)), i7))) (
   cond ((i2.getD (i3 - (a0.length:Int)).toNat (0, (0, (0, ([], 0))))).1 == (7:Int)) (
    loop (impl_needed_l2 i3) ((0:Int), i7)) (
    cond (decide ((0:Int) < r3_.1)) (
     rq (0 ≤ (i2.getD (i3 - (a0.length:Int)).toNat (0, (0, (0, ([], 0))))).2.1 ∧ (i2.getD (i3 - (a0.length:Int)).toNat (0, (0, (0, ([], 0))))).2.1 < i7.length) <|
     impl_needed_j2 a0 i2 i3 i7 r3_ ()) (
     rq (i64 (i3 - (1:Int))) <|
     some (.inl ((i3 - (1:Int)), i7)))))) (
  some (.inr (true, i7)))

noncomputable def impl_needed_j1 (a0 : List D3_) (r1_ : Bool × Int × (List D3_) × (List Bool) × Int) : (List D6_) → Option (Bool × (List Bool)) := fun i2 =>
 rq (0 ≤ (r1_.2.2.1.length:Int) ∧ (r1_.2.2.1.length:Int) ≤ bound ∧ (r1_.2.2.1.length:Int) = (r1_.2.2.1.length:Int)) <|
 rq (0 ≤ r1_.2.1 ∧ r1_.2.1 < (List.replicate (r1_.2.2.1.length:Int).toNat false).length) <|
 rq (i64 ((r1_.2.2.1.length:Int) - (1:Int))) <|
 loop (impl_needed_l1 a0 i2) (((r1_.2.2.1.length:Int) - (1:Int)), ((List.replicate (r1_.2.2.1.length:Int).toNat false).set r1_.2.1.toNat true))

noncomputable def impl_needed_l3 (a0 : List D3_) (a1 : List D6_) (r1_ : Bool × Int × (List D3_) × (List Bool) × Int) : Int × (List D6_) → Option ((Int × (List D6_)) ⊕ (Bool × (List Bool))) := fun (i, i1) =>
 cond (decide (i < (a1.length:Int))) (
  rq (0 ≤ i ∧ i < a1.length) <|
  cond ((a1.getD i.toNat (0, (0, (0, ([], 0))))).1 != (8:Int)) (
   rq (i1.length + [(a1.getD i.toNat (0, (0, (0, ([], 0)))))].length ≤ bound) <|
   rq (i64 (i + (1:Int))) <|
   some (.inl ((i + (1:Int)), (i1 ++ [(a1.getD i.toNat (0, (0, (0, ([], 0)))))])))) (
   rq (i64 (i + (1:Int))) <|
   some (.inl ((i + (1:Int)), i1)))) (
  up (impl_needed_j1 a0 r1_ i1))

noncomputable def impl_needed_j3 : (List D6_) → Option (Bool × (List Bool)) := fun i12 =>
 none

noncomputable def impl_needed_l4 (a1 : List D6_) : Int × (List D6_) → Option ((Int × (List D6_)) ⊕ (Bool × (List Bool))) := fun (i10, i11) =>
 cond (decide (i10 < (a1.length:Int))) (
  rq (0 ≤ i10 ∧ i10 < a1.length) <|
  cond ((a1.getD i10.toNat (0, (0, (0, ([], 0))))).1 != (8:Int)) (
   rq (i11.length + [(a1.getD i10.toNat (0, (0, (0, ([], 0)))))].length ≤ bound) <|
   rq (i64 (i10 + (1:Int))) <|
   some (.inl ((i10 + (1:Int)), (i11 ++ [(a1.getD i10.toNat (0, (0, (0, ([], 0)))))])))) (
   rq (i64 (i10 + (1:Int))) <|
   some (.inl ((i10 + (1:Int)), i11)))) (
  up (impl_needed_j3 i11))

noncomputable def impl_needed (a0 : List D3_) (a1 : List D6_) : Option (Bool × (List Bool)) :=
 (impl_refuting a0 a1).bind fun r1_ =>
 cond r1_.1 (
  cond (decide (r1_.2.1 < (0:Int))) (
   some (false, ([] : List Bool))) (
   loop (impl_needed_l3 a0 a1 r1_) ((0:Int), ([] : List D6_)))) (
  cond (decide (r1_.2.2.2.2 < (0:Int))) (
   some (false, ([] : List Bool))) (
   loop (impl_needed_l4 a1) ((0:Int), ([] : List D6_))))

/-- impl.UsedInputs -/
noncomputable def impl_UsedInputs_l1 (list_ : List D3_) (r1_ : Bool × (List Bool)) : Int × (List Int) → Option ((Int × (List Int)) ⊕ (Bool × (List Int))) := fun (i, out) =>
 cond (decide (i < (list_.length:Int))) (
  rq (0 ≤ i ∧ i < r1_.2.length) <|
  cond (r1_.2.getD i.toNat false) (
   rq (out.length + [i].length ≤ bound) <|
   rq (i64 (i + (1:Int))) <|
   some (.inl ((i + (1:Int)), (out ++ [i])))) (
   rq (i64 (i + (1:Int))) <|
   some (.inl ((i + (1:Int)), out)))) (
  some (.inr (true, out)))

noncomputable def impl_UsedInputs (list_ : List D3_) (steps : List D6_) : Option (Bool × (List Int)) :=
 (impl_needed list_ steps).bind fun r1_ =>
 cond (!r1_.1) (
  some (false, ([] : List Int))) (
  loop (impl_UsedInputs_l1 list_ r1_) ((0:Int), ([] : List Int)))

/-- impl.CheckRefutation -/
noncomputable def impl_CheckRefutation (list_ : List D3_) (steps : List D6_) : Option Bool :=
 (impl_refuting list_ steps).bind fun r1_ =>
 cond r1_.1 (
  some (decide ((0:Int) ≤ r1_.2.1))) (
  some (decide ((0:Int) ≤ r1_.2.2.2.2)))

/-- laws.FnCoreSearch -/
noncomputable def laws_FnCoreSearch (a0 : List Int) : Option Bool :=
 cond (decide ((1048576:Int) < (a0.length:Int))) (
  some true) (
  (spec_DrawMinimalCore a0).bind fun r1_ =>
  (impl_MinimalCore r1_).bind fun r2_ =>
  (spec_MinimalCore r1_).bind fun r3_ =>
  cond (r2_.1 != r3_.1) (
   cond (r2_.1 == r3_.1) (
    (laws_cpInts r2_.2 r3_.2).bind fun r7_ =>
    some r7_) (
    some false)) (
   (laws_cpInts r2_.2 r3_.2).bind fun r4_ =>
   cond (!r4_) (
    cond (r2_.1 == r3_.1) (
     (laws_cpInts r2_.2 r3_.2).bind fun r6_ =>
     some r6_) (
     some false)) (
    cond (!r2_.1) (
     cond (r2_.1 == r3_.1) (
      (laws_cpInts r2_.2 r3_.2).bind fun r5_ =>
      some r5_) (
      some false)) (
     (impl_SubProblem r1_ r2_.2).bind fun r8_ =>
     (impl_SolveProblem r8_.2 (2000:Int)).bind fun r9_ =>
     cond (!r8_.1) (
      cond r8_.1 (
       some (r9_.1 == (0:Int))) (
       some false)) (
      cond (r9_.1 != (2:Int)) (
       cond r8_.1 (
        some (r9_.1 == (0:Int))) (
        some false)) (
       (impl_UsedInputs r8_.2 r9_.2.2).bind fun r10_ =>
       cond r10_.1 (
        cond ((r10_.2.length:Int) == (r8_.2.length:Int)) (
         (impl_CheckRefutation r8_.2 r9_.2.2).bind fun r11_ =>
         some r11_) (
         some false)) (
        some false)))))))

end Go.AE.Y
