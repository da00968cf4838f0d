/-
  Models of the functions: what each computes, as a Lean function into Option. Definitions alone.
-/
import Derived.Test.YtkipgkpekkjebaaAEModel
namespace Go.AE.Y
open Go Go.AE
set_option linter.unusedVariables false

/-- laws.toIntS -/
noncomputable def laws_toIntS_l1 (a : List Int) : Int × (List Int) → Option ((Int × (List Int)) ⊕ (List Int)) := fun (i, out) =>
  cond (decide (i < (a.length:Int))) (
    rq (0 ≤ i ∧ i < a.length) <|
    rq (0 ≤ i ∧ i < out.length) <|
    rq (i64 (i + (1:Int))) <|
    some (.inl ((i + (1:Int)), (out.set i.toNat (a.getD i.toNat 0))))) (
    some (.inr out))

noncomputable def laws_toIntS (a : List Int) : Option (List Int) :=
  rq (0 ≤ (a.length:Int) ∧ (a.length:Int) ≤ bound ∧ (a.length:Int) = (a.length:Int)) <|
  loop (laws_toIntS_l1 a) ((0:Int), (List.replicate (a.length:Int).toNat 0))

/-- laws.toBoolS -/
noncomputable def laws_toBoolS_l1 (a : List Bool) : Int × (List Bool) → Option ((Int × (List Bool)) ⊕ (List Bool)) := fun (i, out) =>
  cond (decide (i < (a.length:Int))) (
    rq (0 ≤ i ∧ i < a.length) <|
    rq (0 ≤ i ∧ i < out.length) <|
    rq (i64 (i + (1:Int))) <|
    some (.inl ((i + (1:Int)), (out.set i.toNat (a.getD i.toNat false))))) (
    some (.inr out))

noncomputable def laws_toBoolS (a : List Bool) : Option (List Bool) :=
  rq (0 ≤ (a.length:Int) ∧ (a.length:Int) ≤ bound ∧ (a.length:Int) = (a.length:Int)) <|
  loop (laws_toBoolS_l1 a) ((0:Int), (List.replicate (a.length:Int).toNat false))

/-- spec.l1Lit -/
noncomputable def spec_l1Lit (n : Int) : Option Bool :=
  cond (n != (0:Int)) (
    cond (decide ((-12:Int) ≤ n)) (
      some (decide (n ≤ (12:Int)))) (
      some false)) (
    some false)

/-- spec.l1Abs -/
noncomputable def spec_l1Abs (n : Int) : Option Int :=
  cond (decide (n < (0:Int))) (
    rq (i64 (0 - n)) <|
    some (0 - n)) (
    some n)

/-- spec.l12Vars -/
noncomputable def spec_l12Vars_l1 (vars : List Int) : Int → Option (Int ⊕ Bool) := fun i =>
  cond (decide (i < (vars.length:Int))) (
    rq (0 ≤ i ∧ i < vars.length) <|
    cond (decide ((vars.getD i.toNat 0) < (1:Int))) (
      some (.inr false)) (
      rq (0 ≤ i ∧ i < vars.length) <|
      cond (decide ((12:Int) < (vars.getD i.toNat 0))) (
        some (.inr false)) (
        cond (decide ((0:Int) < i)) (
          rq (i64 (i - (1:Int))) <|
          rq (0 ≤ (i - (1:Int)) ∧ (i - (1:Int)) < vars.length) <|
          rq (0 ≤ i ∧ i < vars.length) <|
          cond (decide ((vars.getD i.toNat 0) ≤ (vars.getD (i - (1:Int)).toNat 0))) (
            some (.inr false)) (
            rq (i64 (i + (1:Int))) <|
            some (.inl (i + (1:Int))))) (
          rq (i64 (i + (1:Int))) <|
          some (.inl (i + (1:Int))))))) (
    some (.inr (decide ((vars.length:Int) ≤ (4:Int)))))

noncomputable def spec_l12Vars (vars : List Int) : Option Bool :=
  loop (spec_l12Vars_l1 vars) (0:Int)

/-- spec.l12Cube -/
noncomputable def spec_l12Cube_j1 : (List Int) → Option Bool := fun vars1 =>
  (spec_l12Vars vars1).bind fun r5_ =>
  some r5_

noncomputable def spec_l12Cube_l1 (cube : List Int) : Int × (List Int) → Option ((Int × (List Int)) ⊕ Bool) := fun (i, vars) =>
  cond (decide (i < (cube.length:Int))) (
    rq (0 ≤ i ∧ i < cube.length) <|
    (spec_l1Lit (cube.getD i.toNat 0)).bind fun r3_ =>
    cond (!r3_) (
      some (.inr false)) (
      rq (0 ≤ i ∧ i < cube.length) <|
      (spec_l1Abs (cube.getD i.toNat 0)).bind fun r4_ =>
      rq (vars.length + [r4_].length ≤ bound) <|
      rq (i64 (i + (1:Int))) <|
      some (.inl ((i + (1:Int)), (vars ++ [r4_]))))) (
    up (spec_l12Cube_j1 vars))

noncomputable def spec_l12Cube (cube : List Int) : Option Bool :=
  loop (spec_l12Cube_l1 cube) ((0:Int), ([] : List Int))

/-- spec.l1True -/
noncomputable def spec_l1True (values : List Bool) (lit : Int) : Option Bool :=
  cond (decide ((0:Int) < lit)) (
    rq (i64 (lit - (1:Int))) <|
    rq (0 ≤ (lit - (1:Int)) ∧ (lit - (1:Int)) < values.length) <|
    some (values.getD (lit - (1:Int)).toNat false)) (
    rq (i64 (0 - lit)) <|
    rq (i64 ((0 - lit) - (1:Int))) <|
    rq (0 ≤ ((0 - lit) - (1:Int)) ∧ ((0 - lit) - (1:Int)) < values.length) <|
    some (!(values.getD ((0 - lit) - (1:Int)).toNat false)))

/-- spec.CubeHolds -/
noncomputable def spec_CubeHolds_l1 (cube : List Int) (values : List Bool) : Int → Option (Int ⊕ Bool) := fun i =>
  cond (decide (i < (cube.length:Int))) (
    rq (0 ≤ i ∧ i < cube.length) <|
    (spec_l1True values (cube.getD i.toNat 0)).bind fun r2_ =>
    cond (!r2_) (
      some (.inr false)) (
      rq (i64 (i + (1:Int))) <|
      some (.inl (i + (1:Int))))) (
    some (.inr true))

noncomputable def spec_CubeHolds (cube : List Int) (values : List Bool) : Option Bool :=
  (spec_l12Cube cube).bind fun r1_ =>
  cond (!r1_) (
    some false) (
    cond ((values.length:Int) != (12:Int)) (
      some false) (
      loop (spec_CubeHolds_l1 cube values) (0:Int)))

/-- impl.within -/
noncomputable def impl_within (n : Int) (low : Int) (high : Int) : Option Bool :=
  cond (decide (low ≤ n)) (
    some (decide (n ≤ high))) (
    some false)

/-- impl.isLiteral -/
noncomputable def impl_isLiteral (l : Int) : Option Bool :=
  cond (l != (0:Int)) (
    (impl_within l (-12:Int) (12:Int)).bind fun r1_ =>
    some r1_) (
    some false)

/-- impl.variableOf -/
noncomputable def impl_variableOf (l : Int) : Option Int :=
  rq (i64 (0 - l)) <|
  some (max l (0 - l))

/-- impl.isCube -/
noncomputable def impl_isCube_l1 (cube : List Int) : Int → Option (Int ⊕ Bool) := fun i =>
  cond (decide (i < (cube.length:Int))) (
    rq (0 ≤ i ∧ i < cube.length) <|
    (impl_isLiteral (cube.getD i.toNat 0)).bind fun r1_ =>
    cond (!r1_) (
      some (.inr false)) (
      cond (decide ((0:Int) < i)) (
        rq (i64 (i - (1:Int))) <|
        rq (0 ≤ (i - (1:Int)) ∧ (i - (1:Int)) < cube.length) <|
        (impl_variableOf (cube.getD (i - (1:Int)).toNat 0)).bind fun r2_ =>
        (impl_variableOf (cube.getD i.toNat 0)).bind fun r3_ =>
        cond (decide (r3_ ≤ r2_)) (
          some (.inr false)) (
          rq (i64 (i + (1:Int))) <|
          some (.inl (i + (1:Int))))) (
        rq (i64 (i + (1:Int))) <|
        some (.inl (i + (1:Int)))))) (
    some (.inr (decide ((cube.length:Int) ≤ (4:Int)))))

noncomputable def impl_isCube (cube : List Int) : Option Bool :=
  loop (impl_isCube_l1 cube) (0:Int)

/-- impl.holds -/
noncomputable def impl_holds (l : Int) (values : List Bool) : Option Bool :=
  (impl_variableOf l).bind fun r1_ =>
  rq (i64 (r1_ - (1:Int))) <|
  rq (0 ≤ (r1_ - (1:Int)) ∧ (r1_ - (1:Int)) < values.length) <|
  some ((values.getD (r1_ - (1:Int)).toNat false) == (decide ((0:Int) < l)))

/-- impl.CubeHolds$1 -/
noncomputable def impl_CubeHolds_1 (l : Int) (o0 : List Bool) : Option Bool :=
  (impl_holds l o0).bind fun r1_ =>
  some (!r1_)

/-- slices.IndexFunc[[]int,int] -/
noncomputable def slices_IndexFunc_int__impl_CubeHolds_1_l1 (s_ : List Int) (o0 : List Bool) : Int → Option (Int ⊕ Int) := fun i =>
  cond (decide (i < (s_.length:Int))) (
    rq (0 ≤ i ∧ i < s_.length) <|
    (impl_CubeHolds_1 (s_.getD i.toNat 0) o0).bind fun r1_ =>
    cond r1_ (
      some (.inr i)) (
      rq (i64 (i + (1:Int))) <|
      some (.inl (i + (1:Int))))) (
    some (.inr (-1:Int)))

noncomputable def slices_IndexFunc_int__impl_CubeHolds_1 (s_ : List Int) (o0 : List Bool) : Option Int :=
  loop (slices_IndexFunc_int__impl_CubeHolds_1_l1 s_ o0) (0:Int)

/-- slices.ContainsFunc[[]int,int] -/
noncomputable def slices_ContainsFunc_int__impl_CubeHolds_1 (s_ : List Int) (o0 : List Bool) : Option Bool :=
  (slices_IndexFunc_int__impl_CubeHolds_1 s_ o0).bind fun r1_ =>
  some (decide ((0:Int) ≤ r1_))

/-- impl.CubeHolds -/
noncomputable def impl_CubeHolds (cube : List Int) (values : List Bool) : Option Bool :=
  (impl_isCube cube).bind fun r1_ =>
  cond r1_ (
    cond ((values.length:Int) == (12:Int)) (
      (slices_ContainsFunc_int__impl_CubeHolds_1 cube values).bind fun r2_ =>
      some (!r2_)) (
      some false)) (
    some false)

/-- laws.eqIntS -/
noncomputable def laws_eqIntS_l1 (a : List Int) (b : List Int) : Int → Option (Int ⊕ Bool) := fun i =>
  cond (decide (i < (a.length:Int))) (
    rq (0 ≤ i ∧ i < a.length) <|
    rq (0 ≤ i ∧ i < b.length) <|
    cond ((a.getD i.toNat 0) != (b.getD i.toNat 0)) (
      some (.inr false)) (
      rq (i64 (i + (1:Int))) <|
      some (.inl (i + (1:Int))))) (
    some (.inr true))

noncomputable def laws_eqIntS (a : List Int) (b : List Int) : Option Bool :=
  cond ((a.length:Int) != (b.length:Int)) (
    some false) (
    loop (laws_eqIntS_l1 a b) (0:Int))

/-- laws.eqBoolS -/
noncomputable def laws_eqBoolS_l1 (a : List Bool) (b : List Bool) : Int → Option (Int ⊕ Bool) := fun i =>
  cond (decide (i < (a.length:Int))) (
    rq (0 ≤ i ∧ i < a.length) <|
    rq (0 ≤ i ∧ i < b.length) <|
    cond ((a.getD i.toNat false) != (b.getD i.toNat false)) (
      some (.inr false)) (
      rq (i64 (i + (1:Int))) <|
      some (.inl (i + (1:Int))))) (
    some (.inr true))

noncomputable def laws_eqBoolS (a : List Bool) (b : List Bool) : Option Bool :=
  cond ((a.length:Int) != (b.length:Int)) (
    some false) (
    loop (laws_eqBoolS_l1 a b) (0:Int))

/-- laws.FnExactCubeHolds -/
noncomputable def laws_FnExactCubeHolds (aCube : List Int) (aValues : List Bool) : Option Bool :=
  cond (decide ((1048576:Int) < (aCube.length:Int))) (
    some true) (
    cond (decide ((1048576:Int) < (aValues.length:Int))) (
      some true) (
      (laws_toIntS aCube).bind fun r1_ =>
      (laws_toBoolS aValues).bind fun r2_ =>
      (spec_CubeHolds r1_ r2_).bind fun r3_ =>
      (laws_toIntS aCube).bind fun r4_ =>
      (laws_toBoolS aValues).bind fun r5_ =>
      (impl_CubeHolds r4_ r5_).bind fun r6_ =>
      cond (r6_ != r3_) (
        some false) (
        (laws_toIntS aCube).bind fun r7_ =>
        (laws_eqIntS r4_ r7_).bind fun r8_ =>
        cond (!r8_) (
          some false) (
          (laws_toBoolS aValues).bind fun r9_ =>
          (laws_eqBoolS r5_ r9_).bind fun r10_ =>
          cond (!r10_) (
            some false) (
            some true)))))

/-- spec.l17Open -/
noncomputable def spec_l17Open_j1 : (List Int) → Option (((List Int) × Int)) := fun code1 =>
  some (code1, (0:Int))

noncomputable def spec_l17Open (code : List Int) : Option (((List Int) × Int)) :=
  cond (decide ((2000:Int) < (code.length:Int))) (
    rq (0 ≤ (2000:Int) ∧ (2000:Int) ≤ code.length) <|
    spec_l17Open_j1 (code.take (2000:Int).toNat)) (
    spec_l17Open_j1 code)

/-- (*spec.l17Rd).pick -/
noncomputable def spec_l17Rd_pick (a1 : Int) (o0 : (List Int) × Int) : Option (Int × ((List Int) × Int)) :=
  rq (i64 (o0.2 + (1:Int))) <|
  cond (decide (a1 < (1:Int))) (
    some ((0:Int), (o0.1, (o0.2 + (1:Int))))) (
    cond ((o0.1.length:Int) == (0:Int)) (
      some ((0:Int), (o0.1, (o0.2 + (1:Int))))) (
      rq (i64 ((o0.2 + (1:Int)) - (1:Int))) <|
      cond (decide (((o0.2 + (1:Int)) - (1:Int)) < (o0.1.length:Int))) (
        rq (0 ≤ ((o0.2 + (1:Int)) - (1:Int)) ∧ ((o0.2 + (1:Int)) - (1:Int)) < o0.1.length) <|
        rq (i64 (o0.1.getD ((o0.2 + (1:Int)) - (1:Int)).toNat 0)) <|
        rq (1 ≤ a1 ∧ 0 ≤ (o0.1.getD ((o0.2 + (1:Int)) - (1:Int)).toNat 0)) <|
        some (((o0.1.getD ((o0.2 + (1:Int)) - (1:Int)).toNat 0) % a1), (o0.1, (o0.2 + (1:Int))))) (
        rq (1 ≤ (o0.1.length:Int) ∧ 0 ≤ ((o0.2 + (1:Int)) - (1:Int))) <|
        rq (0 ≤ (((o0.2 + (1:Int)) - (1:Int)) % (o0.1.length:Int)) ∧ (((o0.2 + (1:Int)) - (1:Int)) % (o0.1.length:Int)) < o0.1.length) <|
        rq (i64 (o0.1.getD (((o0.2 + (1:Int)) - (1:Int)) % (o0.1.length:Int)).toNat 0)) <|
        rq (i64 ((o0.1.getD (((o0.2 + (1:Int)) - (1:Int)) % (o0.1.length:Int)).toNat 0) * (131:Int))) <|
        rq (i64 (((o0.2 + (1:Int)) - (1:Int)) * (7:Int))) <|
        rq (i64 ((((o0.2 + (1:Int)) - (1:Int)) * (7:Int)) + (3:Int))) <|
        rq (1 ≤ (o0.1.length:Int) ∧ 0 ≤ ((((o0.2 + (1:Int)) - (1:Int)) * (7:Int)) + (3:Int))) <|
        rq (0 ≤ (((((o0.2 + (1:Int)) - (1:Int)) * (7:Int)) + (3:Int)) % (o0.1.length:Int)) ∧ (((((o0.2 + (1:Int)) - (1:Int)) * (7:Int)) + (3:Int)) % (o0.1.length:Int)) < o0.1.length) <|
        rq (i64 (o0.1.getD (((((o0.2 + (1:Int)) - (1:Int)) * (7:Int)) + (3:Int)) % (o0.1.length:Int)).toNat 0)) <|
        rq (i64 ((o0.1.getD (((((o0.2 + (1:Int)) - (1:Int)) * (7:Int)) + (3:Int)) % (o0.1.length:Int)).toNat 0) * (1117:Int))) <|
        rq (i64 (((o0.1.getD (((o0.2 + (1:Int)) - (1:Int)) % (o0.1.length:Int)).toNat 0) * (131:Int)) + ((o0.1.getD (((((o0.2 + (1:Int)) - (1:Int)) * (7:Int)) + (3:Int)) % (o0.1.length:Int)).toNat 0) * (1117:Int)))) <|
        rq (i64 (((o0.2 + (1:Int)) - (1:Int)) * (29:Int))) <|
        rq (i64 ((((o0.1.getD (((o0.2 + (1:Int)) - (1:Int)) % (o0.1.length:Int)).toNat 0) * (131:Int)) + ((o0.1.getD (((((o0.2 + (1:Int)) - (1:Int)) * (7:Int)) + (3:Int)) % (o0.1.length:Int)).toNat 0) * (1117:Int))) + (((o0.2 + (1:Int)) - (1:Int)) * (29:Int)))) <|
        rq (1 ≤ (o0.1.length:Int) ∧ 0 ≤ ((o0.2 + (1:Int)) - (1:Int))) <|
        rq (i64 ((((o0.2 + (1:Int)) - (1:Int)) / (o0.1.length:Int)) * (53:Int))) <|
        rq (i64 (((((o0.1.getD (((o0.2 + (1:Int)) - (1:Int)) % (o0.1.length:Int)).toNat 0) * (131:Int)) + ((o0.1.getD (((((o0.2 + (1:Int)) - (1:Int)) * (7:Int)) + (3:Int)) % (o0.1.length:Int)).toNat 0) * (1117:Int))) + (((o0.2 + (1:Int)) - (1:Int)) * (29:Int))) + ((((o0.2 + (1:Int)) - (1:Int)) / (o0.1.length:Int)) * (53:Int)))) <|
        rq (1 ≤ (64:Int) ∧ 0 ≤ (((((o0.1.getD (((o0.2 + (1:Int)) - (1:Int)) % (o0.1.length:Int)).toNat 0) * (131:Int)) + ((o0.1.getD (((((o0.2 + (1:Int)) - (1:Int)) * (7:Int)) + (3:Int)) % (o0.1.length:Int)).toNat 0) * (1117:Int))) + (((o0.2 + (1:Int)) - (1:Int)) * (29:Int))) + ((((o0.2 + (1:Int)) - (1:Int)) / (o0.1.length:Int)) * (53:Int)))) <|
        rq (0 ≤ (((((o0.1.getD (((o0.2 + (1:Int)) - (1:Int)) % (o0.1.length:Int)).toNat 0) * (131:Int)) + ((o0.1.getD (((((o0.2 + (1:Int)) - (1:Int)) * (7:Int)) + (3:Int)) % (o0.1.length:Int)).toNat 0) * (1117:Int))) + (((o0.2 + (1:Int)) - (1:Int)) * (29:Int))) + ((((o0.2 + (1:Int)) - (1:Int)) / (o0.1.length:Int)) * (53:Int))) ∧ 0 ≤ ((((((o0.1.getD (((o0.2 + (1:Int)) - (1:Int)) % (o0.1.length:Int)).toNat 0) * (131:Int)) + ((o0.1.getD (((((o0.2 + (1:Int)) - (1:Int)) * (7:Int)) + (3:Int)) % (o0.1.length:Int)).toNat 0) * (1117:Int))) + (((o0.2 + (1:Int)) - (1:Int)) * (29:Int))) + ((((o0.2 + (1:Int)) - (1:Int)) / (o0.1.length:Int)) * (53:Int))) / (64:Int))) <|
        rq (1 ≤ a1 ∧ 0 ≤ (((((((o0.1.getD (((o0.2 + (1:Int)) - (1:Int)) % (o0.1.length:Int)).toNat 0) * (131:Int)) + ((o0.1.getD (((((o0.2 + (1:Int)) - (1:Int)) * (7:Int)) + (3:Int)) % (o0.1.length:Int)).toNat 0) * (1117:Int))) + (((o0.2 + (1:Int)) - (1:Int)) * (29:Int))) + ((((o0.2 + (1:Int)) - (1:Int)) / (o0.1.length:Int)) * (53:Int))).toNat ^^^ ((((((o0.1.getD (((o0.2 + (1:Int)) - (1:Int)) % (o0.1.length:Int)).toNat 0) * (131:Int)) + ((o0.1.getD (((((o0.2 + (1:Int)) - (1:Int)) * (7:Int)) + (3:Int)) % (o0.1.length:Int)).toNat 0) * (1117:Int))) + (((o0.2 + (1:Int)) - (1:Int)) * (29:Int))) + ((((o0.2 + (1:Int)) - (1:Int)) / (o0.1.length:Int)) * (53:Int))) / (64:Int)).toNat : Nat) : Int)) <|
        some (((((((((o0.1.getD (((o0.2 + (1:Int)) - (1:Int)) % (o0.1.length:Int)).toNat 0) * (131:Int)) + ((o0.1.getD (((((o0.2 + (1:Int)) - (1:Int)) * (7:Int)) + (3:Int)) % (o0.1.length:Int)).toNat 0) * (1117:Int))) + (((o0.2 + (1:Int)) - (1:Int)) * (29:Int))) + ((((o0.2 + (1:Int)) - (1:Int)) / (o0.1.length:Int)) * (53:Int))).toNat ^^^ ((((((o0.1.getD (((o0.2 + (1:Int)) - (1:Int)) % (o0.1.length:Int)).toNat 0) * (131:Int)) + ((o0.1.getD (((((o0.2 + (1:Int)) - (1:Int)) * (7:Int)) + (3:Int)) % (o0.1.length:Int)).toNat 0) * (1117:Int))) + (((o0.2 + (1:Int)) - (1:Int)) * (29:Int))) + ((((o0.2 + (1:Int)) - (1:Int)) / (o0.1.length:Int)) * (53:Int))) / (64:Int)).toNat : Nat) : Int) % a1), (o0.1, (o0.2 + (1:Int)))))))

/-- (*spec.l17Rd).num -/
noncomputable def spec_l17Rd_num (list_ : List Int) (r_ : (List Int) × Int) : Option (Int × ((List Int) × Int)) :=
  (spec_l17Rd_pick (list_.length:Int) r_).bind fun r1_ =>
  rq (0 ≤ r1_.1 ∧ r1_.1 < list_.length) <|
  some ((list_.getD r1_.1.toNat 0), r1_.2)

/-- spec.l12Draw -/
noncomputable def spec_l12Draw_j1 : ((List Int) × Int) × (List Int) → Option (((List Int) × Int) × (List Int)) := fun (r_2, out1) =>
  (spec_l17Rd_pick (30:Int) r_2).bind fun r3_ =>
  cond (r3_.1 == (0:Int)) (
    (spec_l17Rd_num [(1:Int), (13:Int), (0:Int), (-2:Int)] r3_.2).bind fun r4_ =>
    rq (out1.length + [r4_.1].length ≤ bound) <|
    some (r4_.2, (out1 ++ [r4_.1]))) (
    cond (r3_.1 == (1:Int)) (
      some (r3_.2, [(1:Int), (2:Int), (3:Int), (4:Int), (5:Int)])) (
      cond (r3_.1 == (2:Int)) (
        some (r3_.2, [(2:Int), (4:Int), (6:Int), (12:Int)])) (
        some (r3_.2, out1))))

noncomputable def spec_l12Draw_l1 : Int × ((List Int) × Int) × (List Int) → Option ((Int × ((List Int) × Int) × (List Int)) ⊕ (((List Int) × Int) × (List Int))) := fun (v, r_1, out) =>
  cond (decide (v ≤ (5:Int))) (
    (spec_l17Rd_pick (2:Int) r_1).bind fun r2_ =>
    cond (r2_.1 == (0:Int)) (
      cond (decide ((out.length:Int) < (3:Int))) (
        rq (out.length + [v].length ≤ bound) <|
        rq (i64 (v + (1:Int))) <|
        some (.inl ((v + (1:Int)), r2_.2, (out ++ [v])))) (
        rq (i64 (v + (1:Int))) <|
        some (.inl ((v + (1:Int)), r2_.2, out)))) (
      rq (i64 (v + (1:Int))) <|
      some (.inl ((v + (1:Int)), r2_.2, out)))) (
    up (spec_l12Draw_j1 (r_1, out)))

noncomputable def spec_l12Draw (r_ : (List Int) × Int) : Option (((List Int) × Int) × (List Int)) :=
  loop (spec_l12Draw_l1) ((1:Int), r_, ([] : List Int))

/-- spec.l12Signed -/
noncomputable def spec_l12Signed_l1 : Int × ((List Int) × Int) × (List Int) → Option ((Int × ((List Int) × Int) × (List Int)) ⊕ (((List Int) × Int) × (List Int))) := fun (i, r_1, out) =>
  cond (decide (i < (out.length:Int))) (
    (spec_l17Rd_pick (2:Int) r_1).bind fun r3_ =>
    cond (r3_.1 == (0:Int)) (
      rq (0 ≤ i ∧ i < out.length) <|
      rq (i64 (0 - (out.getD i.toNat 0))) <|
      rq (0 ≤ i ∧ i < out.length) <|
      rq (i64 (i + (1:Int))) <|
      some (.inl ((i + (1:Int)), r3_.2, (out.set i.toNat (0 - (out.getD i.toNat 0)))))) (
      rq (i64 (i + (1:Int))) <|
      some (.inl ((i + (1:Int)), r3_.2, out)))) (
    some (.inr (r_1, out)))

noncomputable def spec_l12Signed (r_ : (List Int) × Int) : Option (((List Int) × Int) × (List Int)) :=
  (spec_l12Draw r_).bind fun r1_ =>
  loop (spec_l12Signed_l1) ((0:Int), r1_.1, r1_.2)

/-- spec.l1Values -/
noncomputable def spec_l1Values_j1 : ((List Int) × Int) × (List Bool) → Option (((List Int) × Int) × (List Bool)) := fun (r_2, out1) =>
  (spec_l17Rd_pick (40:Int) r_2).bind fun r3_ =>
  cond (r3_.1 == (0:Int)) (
    rq (0 ≤ (11:Int) ∧ (11:Int) ≤ out1.length) <|
    some (r3_.2, (out1.take (11:Int).toNat))) (
    some (r3_.2, out1))

noncomputable def spec_l1Values_l1 : Int × ((List Int) × Int) × (List Bool) → Option ((Int × ((List Int) × Int) × (List Bool)) ⊕ (((List Int) × Int) × (List Bool))) := fun (i, r_1, out) =>
  cond (decide (i < (12:Int))) (
    (spec_l17Rd_pick (2:Int) r_1).bind fun r2_ =>
    rq (out.length + [(r2_.1 == (0:Int))].length ≤ bound) <|
    rq (i64 (i + (1:Int))) <|
    some (.inl ((i + (1:Int)), r2_.2, (out ++ [(r2_.1 == (0:Int))])))) (
    up (spec_l1Values_j1 (r_1, out)))

noncomputable def spec_l1Values (r_ : (List Int) × Int) : Option (((List Int) × Int) × (List Bool)) :=
  loop (spec_l1Values_l1) ((0:Int), r_, ([] : List Bool))

/-- spec.DrawCubeHolds -/
noncomputable def spec_DrawCubeHolds_j1 (r2_ : ((List Int) × Int) × (List Int)) : (List Bool) → Option ((List Int) × (List Bool)) := fun values1 =>
  some (r2_.2, values1)

noncomputable def spec_DrawCubeHolds_l1 (r2_ : ((List Int) × Int) × (List Int)) : Int × ((List Int) × Int) × (List Bool) → Option ((Int × ((List Int) × Int) × (List Bool)) ⊕ ((List Int) × (List Bool))) := fun (i, r_, values) =>
  cond (decide (i < (r2_.2.length:Int))) (
    (spec_l17Rd_pick (6:Int) r_).bind fun r6_ =>
    cond (decide ((0:Int) < r6_.1)) (
      rq (0 ≤ i ∧ i < r2_.2.length) <|
      (spec_l1Abs (r2_.2.getD i.toNat 0)).bind fun r7_ =>
      cond (decide ((1:Int) ≤ r7_)) (
        cond (decide (r7_ ≤ (values.length:Int))) (
          rq (i64 (r7_ - (1:Int))) <|
          rq (0 ≤ i ∧ i < r2_.2.length) <|
          rq (0 ≤ (r7_ - (1:Int)) ∧ (r7_ - (1:Int)) < values.length) <|
          rq (i64 (i + (1:Int))) <|
          some (.inl ((i + (1:Int)), r6_.2, (values.set (r7_ - (1:Int)).toNat (decide ((0:Int) < (r2_.2.getD i.toNat 0))))))) (
          rq (i64 (i + (1:Int))) <|
          some (.inl ((i + (1:Int)), r6_.2, values)))) (
        rq (i64 (i + (1:Int))) <|
        some (.inl ((i + (1:Int)), r6_.2, values)))) (
      up (spec_DrawCubeHolds_j1 r2_ values))) (
    up (spec_DrawCubeHolds_j1 r2_ values))

noncomputable def spec_DrawCubeHolds (code : List Int) : Option ((List Int) × (List Bool)) :=
  (spec_l17Open code).bind fun r1_ =>
  (spec_l12Signed r1_).bind fun r2_ =>
  (spec_l1Values r2_.1).bind fun r3_ =>
  loop (spec_DrawCubeHolds_l1 r2_) ((0:Int), r3_.1, r3_.2)

/-- laws.FnCubeHolds -/
noncomputable def laws_FnCubeHolds_l1 (r1_ : (List Int) × (List Bool)) : Int → Option (Int ⊕ Bool) := fun i =>
  cond (decide (i < (r1_.1.length:Int))) (
    rq (([] : List Int).length + r1_.1.length ≤ bound) <|
    rq (0 ≤ i ∧ i < (([] : List Int) ++ r1_.1).length) <|
    rq (i64 (0 - ((([] : List Int) ++ r1_.1).getD i.toNat 0))) <|
    rq (0 ≤ i ∧ i < (([] : List Int) ++ r1_.1).length) <|
    (impl_CubeHolds ((([] : List Int) ++ r1_.1).set i.toNat (0 - ((([] : List Int) ++ r1_.1).getD i.toNat 0))) r1_.2).bind fun r11_ =>
    cond r11_ (
      some (.inr false)) (
      rq (i64 (i + (1:Int))) <|
      some (.inl (i + (1:Int))))) (
    some (.inr true))

noncomputable def laws_FnCubeHolds (a0 : List Int) : Option Bool :=
  cond (decide ((1048576:Int) < (a0.length:Int))) (
    some true) (
    (spec_DrawCubeHolds a0).bind fun r1_ =>
    (impl_CubeHolds r1_.1 r1_.2).bind fun r2_ =>
    (spec_CubeHolds r1_.1 r1_.2).bind fun r3_ =>
    cond (r2_ != r3_) (
      (spec_CubeHolds r1_.1 r1_.2).bind fun r9_ =>
      cond (r2_ == r9_) (
        (impl_CubeHolds ([] : List Int) r1_.2).bind fun r10_ =>
        some (r10_ == ((r1_.2.length:Int) == (12:Int)))) (
        some false)) (
      (impl_CubeHolds ([] : List Int) r1_.2).bind fun r4_ =>
      cond (r4_ != ((r1_.2.length:Int) == (12:Int))) (
        (spec_CubeHolds r1_.1 r1_.2).bind fun r7_ =>
        cond (r2_ == r7_) (
          (impl_CubeHolds ([] : List Int) r1_.2).bind fun r8_ =>
          some (r8_ == ((r1_.2.length:Int) == (12:Int)))) (
          some false)) (
        cond (!r2_) (
          (spec_CubeHolds r1_.1 r1_.2).bind fun r5_ =>
          cond (r2_ == r5_) (
            (impl_CubeHolds ([] : List Int) r1_.2).bind fun r6_ =>
            some (r6_ == ((r1_.2.length:Int) == (12:Int)))) (
            some false)) (
          loop (laws_FnCubeHolds_l1 r1_) (0:Int)))))

end Go.AE.Y
