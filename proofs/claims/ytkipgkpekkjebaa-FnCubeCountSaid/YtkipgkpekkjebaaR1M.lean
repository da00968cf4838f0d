/-
  Models of the functions: what each computes, as a Lean function into Option. Definitions alone.
-/
import Derived.Test.YtkipgkpekkjebaaAEModel
namespace Go.AE.Y
open Go Go.AE
set_option linter.unusedVariables false

/-- laws.toIntS -/
noncomputable def laws_toIntS_l1 (a : List Int) : Int × (List Int) → Option ((Int × (List Int)) ⊕ (List Int)) := fun (i, out) =>
  cond (decide (i < (a.length:Int))) (
    rq (0 ≤ i ∧ i < a.length) <|
    rq (0 ≤ i ∧ i < out.length) <|
    rq (i64 (i + (1:Int))) <|
    some (.inl ((i + (1:Int)), (out.set i.toNat (a.getD i.toNat 0))))) (
    some (.inr out))

noncomputable def laws_toIntS (a : List Int) : Option (List Int) :=
  rq (0 ≤ (a.length:Int) ∧ (a.length:Int) ≤ bound ∧ (a.length:Int) = (a.length:Int)) <|
  loop (laws_toIntS_l1 a) ((0:Int), (List.replicate (a.length:Int).toNat 0))

/-- laws.toBoolS -/
noncomputable def laws_toBoolS_l1 (a : List Bool) : Int × (List Bool) → Option ((Int × (List Bool)) ⊕ (List Bool)) := fun (i, out) =>
  cond (decide (i < (a.length:Int))) (
    rq (0 ≤ i ∧ i < a.length) <|
    rq (0 ≤ i ∧ i < out.length) <|
    rq (i64 (i + (1:Int))) <|
    some (.inl ((i + (1:Int)), (out.set i.toNat (a.getD i.toNat false))))) (
    some (.inr out))

noncomputable def laws_toBoolS (a : List Bool) : Option (List Bool) :=
  rq (0 ≤ (a.length:Int) ∧ (a.length:Int) ≤ bound ∧ (a.length:Int) = (a.length:Int)) <|
  loop (laws_toBoolS_l1 a) ((0:Int), (List.replicate (a.length:Int).toNat false))

/-- spec.l1Lit -/
noncomputable def spec_l1Lit (n : Int) : Option Bool :=
  cond (n != (0:Int)) (
    cond (decide ((-12:Int) ≤ n)) (
      some (decide (n ≤ (12:Int)))) (
      some false)) (
    some false)

/-- spec.l1Abs -/
noncomputable def spec_l1Abs (n : Int) : Option Int :=
  cond (decide (n < (0:Int))) (
    rq (i64 (0 - n)) <|
    some (0 - n)) (
    some n)

/-- spec.l12Vars -/
noncomputable def spec_l12Vars_l1 (vars : List Int) : Int → Option (Int ⊕ Bool) := fun i =>
  cond (decide (i < (vars.length:Int))) (
    rq (0 ≤ i ∧ i < vars.length) <|
    cond (decide ((vars.getD i.toNat 0) < (1:Int))) (
      some (.inr false)) (
      rq (0 ≤ i ∧ i < vars.length) <|
      cond (decide ((12:Int) < (vars.getD i.toNat 0))) (
        some (.inr false)) (
        cond (decide ((0:Int) < i)) (
          rq (i64 (i - (1:Int))) <|
          rq (0 ≤ (i - (1:Int)) ∧ (i - (1:Int)) < vars.length) <|
          rq (0 ≤ i ∧ i < vars.length) <|
          cond (decide ((vars.getD i.toNat 0) ≤ (vars.getD (i - (1:Int)).toNat 0))) (
            some (.inr false)) (
            rq (i64 (i + (1:Int))) <|
            some (.inl (i + (1:Int))))) (
          rq (i64 (i + (1:Int))) <|
          some (.inl (i + (1:Int))))))) (
    some (.inr (decide ((vars.length:Int) ≤ (4:Int)))))

noncomputable def spec_l12Vars (vars : List Int) : Option Bool :=
  loop (spec_l12Vars_l1 vars) (0:Int)

/-- spec.l12Cube -/
noncomputable def spec_l12Cube_j1 : (List Int) → Option Bool := fun vars1 =>
  (spec_l12Vars vars1).bind fun r5_ =>
  some r5_

noncomputable def spec_l12Cube_l1 (cube : List Int) : Int × (List Int) → Option ((Int × (List Int)) ⊕ Bool) := fun (i, vars) =>
  cond (decide (i < (cube.length:Int))) (
    rq (0 ≤ i ∧ i < cube.length) <|
    (spec_l1Lit (cube.getD i.toNat 0)).bind fun r3_ =>
    cond (!r3_) (
      some (.inr false)) (
      rq (0 ≤ i ∧ i < cube.length) <|
      (spec_l1Abs (cube.getD i.toNat 0)).bind fun r4_ =>
      rq (vars.length + [r4_].length ≤ bound) <|
      rq (i64 (i + (1:Int))) <|
      some (.inl ((i + (1:Int)), (vars ++ [r4_]))))) (
    up (spec_l12Cube_j1 vars))

noncomputable def spec_l12Cube (cube : List Int) : Option Bool :=
  loop (spec_l12Cube_l1 cube) ((0:Int), ([] : List Int))

/-- spec.l1True -/
noncomputable def spec_l1True (values : List Bool) (lit : Int) : Option Bool :=
  cond (decide ((0:Int) < lit)) (
    rq (i64 (lit - (1:Int))) <|
    rq (0 ≤ (lit - (1:Int)) ∧ (lit - (1:Int)) < values.length) <|
    some (values.getD (lit - (1:Int)).toNat false)) (
    rq (i64 (0 - lit)) <|
    rq (i64 ((0 - lit) - (1:Int))) <|
    rq (0 ≤ ((0 - lit) - (1:Int)) ∧ ((0 - lit) - (1:Int)) < values.length) <|
    some (!(values.getD ((0 - lit) - (1:Int)).toNat false)))

/-- spec.CubeHolds -/
noncomputable def spec_CubeHolds_l1 (cube : List Int) (values : List Bool) : Int → Option (Int ⊕ Bool) := fun i =>
  cond (decide (i < (cube.length:Int))) (
    rq (0 ≤ i ∧ i < cube.length) <|
    (spec_l1True values (cube.getD i.toNat 0)).bind fun r2_ =>
    cond (!r2_) (
      some (.inr false)) (
      rq (i64 (i + (1:Int))) <|
      some (.inl (i + (1:Int))))) (
    some (.inr true))

noncomputable def spec_CubeHolds (cube : List Int) (values : List Bool) : Option Bool :=
  (spec_l12Cube cube).bind fun r1_ =>
  cond (!r1_) (
    some false) (
    cond ((values.length:Int) != (12:Int)) (
      some false) (
      loop (spec_CubeHolds_l1 cube values) (0:Int)))

/-- impl.within -/
noncomputable def impl_within (n : Int) (low : Int) (high : Int) : Option Bool :=
  cond (decide (low ≤ n)) (
    some (decide (n ≤ high))) (
    some false)

/-- impl.isLiteral -/
noncomputable def impl_isLiteral (l : Int) : Option Bool :=
  cond (l != (0:Int)) (
    (impl_within l (-12:Int) (12:Int)).bind fun r1_ =>
    some r1_) (
    some false)

/-- impl.variableOf -/
noncomputable def impl_variableOf (l : Int) : Option Int :=
  rq (i64 (0 - l)) <|
  some (max l (0 - l))

/-- impl.isCube -/
noncomputable def impl_isCube_l1 (cube : List Int) : Int → Option (Int ⊕ Bool) := fun i =>
  cond (decide (i < (cube.length:Int))) (
    rq (0 ≤ i ∧ i < cube.length) <|
    (impl_isLiteral (cube.getD i.toNat 0)).bind fun r1_ =>
    cond (!r1_) (
      some (.inr false)) (
      cond (decide ((0:Int) < i)) (
        rq (i64 (i - (1:Int))) <|
        rq (0 ≤ (i - (1:Int)) ∧ (i - (1:Int)) < cube.length) <|
        (impl_variableOf (cube.getD (i - (1:Int)).toNat 0)).bind fun r2_ =>
        (impl_variableOf (cube.getD i.toNat 0)).bind fun r3_ =>
        cond (decide (r3_ ≤ r2_)) (
          some (.inr false)) (
          rq (i64 (i + (1:Int))) <|
          some (.inl (i + (1:Int))))) (
        rq (i64 (i + (1:Int))) <|
        some (.inl (i + (1:Int)))))) (
    some (.inr (decide ((cube.length:Int) ≤ (4:Int)))))

noncomputable def impl_isCube (cube : List Int) : Option Bool :=
  loop (impl_isCube_l1 cube) (0:Int)

/-- impl.holds -/
noncomputable def impl_holds (l : Int) (values : List Bool) : Option Bool :=
  (impl_variableOf l).bind fun r1_ =>
  rq (i64 (r1_ - (1:Int))) <|
  rq (0 ≤ (r1_ - (1:Int)) ∧ (r1_ - (1:Int)) < values.length) <|
  some ((values.getD (r1_ - (1:Int)).toNat false) == (decide ((0:Int) < l)))

/-- impl.CubeHolds$1 -/
noncomputable def impl_CubeHolds_1 (l : Int) (o0 : List Bool) : Option Bool :=
  (impl_holds l o0).bind fun r1_ =>
  some (!r1_)

/-- slices.IndexFunc[[]int,int] -/
noncomputable def slices_IndexFunc_int__impl_CubeHolds_1_l1 (s_ : List Int) (o0 : List Bool) : Int → Option (Int ⊕ Int) := fun i =>
  cond (decide (i < (s_.length:Int))) (
    rq (0 ≤ i ∧ i < s_.length) <|
    (impl_CubeHolds_1 (s_.getD i.toNat 0) o0).bind fun r1_ =>
    cond r1_ (
      some (.inr i)) (
      rq (i64 (i + (1:Int))) <|
      some (.inl (i + (1:Int))))) (
    some (.inr (-1:Int)))

noncomputable def slices_IndexFunc_int__impl_CubeHolds_1 (s_ : List Int) (o0 : List Bool) : Option Int :=
  loop (slices_IndexFunc_int__impl_CubeHolds_1_l1 s_ o0) (0:Int)

/-- slices.ContainsFunc[[]int,int] -/
noncomputable def slices_ContainsFunc_int__impl_CubeHolds_1 (s_ : List Int) (o0 : List Bool) : Option Bool :=
  (slices_IndexFunc_int__impl_CubeHolds_1 s_ o0).bind fun r1_ =>
  some (decide ((0:Int) ≤ r1_))

/-- impl.CubeHolds -/
noncomputable def impl_CubeHolds (cube : List Int) (values : List Bool) : Option Bool :=
  (impl_isCube cube).bind fun r1_ =>
  cond r1_ (
    cond ((values.length:Int) == (12:Int)) (
      (slices_ContainsFunc_int__impl_CubeHolds_1 cube values).bind fun r2_ =>
      some (!r2_)) (
      some false)) (
    some false)

/-- laws.eqIntS -/
noncomputable def laws_eqIntS_l1 (a : List Int) (b : List Int) : Int → Option (Int ⊕ Bool) := fun i =>
  cond (decide (i < (a.length:Int))) (
    rq (0 ≤ i ∧ i < a.length) <|
    rq (0 ≤ i ∧ i < b.length) <|
    cond ((a.getD i.toNat 0) != (b.getD i.toNat 0)) (
      some (.inr false)) (
      rq (i64 (i + (1:Int))) <|
      some (.inl (i + (1:Int))))) (
    some (.inr true))

noncomputable def laws_eqIntS (a : List Int) (b : List Int) : Option Bool :=
  cond ((a.length:Int) != (b.length:Int)) (
    some false) (
    loop (laws_eqIntS_l1 a b) (0:Int))

/-- laws.eqBoolS -/
noncomputable def laws_eqBoolS_l1 (a : List Bool) (b : List Bool) : Int → Option (Int ⊕ Bool) := fun i =>
  cond (decide (i < (a.length:Int))) (
    rq (0 ≤ i ∧ i < a.length) <|
    rq (0 ≤ i ∧ i < b.length) <|
    cond ((a.getD i.toNat false) != (b.getD i.toNat false)) (
      some (.inr false)) (
      rq (i64 (i + (1:Int))) <|
      some (.inl (i + (1:Int))))) (
    some (.inr true))

noncomputable def laws_eqBoolS (a : List Bool) (b : List Bool) : Option Bool :=
  cond ((a.length:Int) != (b.length:Int)) (
    some false) (
    loop (laws_eqBoolS_l1 a b) (0:Int))

/-- laws.FnExactCubeHolds -/
noncomputable def laws_FnExactCubeHolds (aCube : List Int) (aValues : List Bool) : Option Bool :=
  cond (decide ((1048576:Int) < (aCube.length:Int))) (
    some true) (
    cond (decide ((1048576:Int) < (aValues.length:Int))) (
      some true) (
      (laws_toIntS aCube).bind fun r1_ =>
      (laws_toBoolS aValues).bind fun r2_ =>
      (spec_CubeHolds r1_ r2_).bind fun r3_ =>
      (laws_toIntS aCube).bind fun r4_ =>
      (laws_toBoolS aValues).bind fun r5_ =>
      (impl_CubeHolds r4_ r5_).bind fun r6_ =>
      cond (r6_ != r3_) (
        some false) (
        (laws_toIntS aCube).bind fun r7_ =>
        (laws_eqIntS r4_ r7_).bind fun r8_ =>
        cond (!r8_) (
          some false) (
          (laws_toBoolS aValues).bind fun r9_ =>
          (laws_eqBoolS r5_ r9_).bind fun r10_ =>
          cond (!r10_) (
            some false) (
            some true)))))

/-- spec.l12Cubes -/
noncomputable def spec_l12Cubes_j1 (vars : List Int) (i : Int) (k_1 : Int) (out2 : List (List Int)) (next1 : List (List Int)) : Unit → Option ((Int × (List (List Int)) × (List (List Int))) ⊕ ((Int × (List (List Int))) ⊕ (List (List Int)))) := fun _ =>
  rq (0 ≤ k_1 ∧ k_1 < (out2.set k_1.toNat (out2.getD k_1.toNat [])).length) <|
  rq (0 ≤ i ∧ i < vars.length) <|
  rq (i64 (0 - (vars.getD i.toNat 0))) <|
  rq (([] : List Int).length + ((out2.set k_1.toNat (out2.getD k_1.toNat [])).getD k_1.toNat []).length ≤ bound) <|
  rq ((([] : List Int) ++ ((out2.set k_1.toNat (out2.getD k_1.toNat [])).getD k_1.toNat [])).length + [(0 - (vars.getD i.toNat 0))].length ≤ bound) <|
  rq ((next1 ++ [((([] : List Int) ++ (out2.getD k_1.toNat [])) ++ [(vars.getD i.toNat 0)])]).length + [((([] : List Int) ++ ((out2.set k_1.toNat (out2.getD k_1.toNat [])).getD k_1.toNat [])) ++ [(0 - (vars.getD i.toNat 0))])].length ≤ bound) <|
  rq (i64 (k_1 + (1:Int))) <|
  some (.inl ((k_1 + (1:Int)), ((out2.set k_1.toNat (out2.getD k_1.toNat [])).set k_1.toNat ((out2.set k_1.toNat (out2.getD k_1.toNat [])).getD k_1.toNat [])), ((next1 ++ [((([] : List Int) ++ (out2.getD k_1.toNat [])) ++ [(vars.getD i.toNat 0)])]) ++ [((([] : List Int) ++ ((out2.set k_1.toNat (out2.getD k_1.toNat [])).getD k_1.toNat [])) ++ [(0 - (vars.getD i.toNat 0))])])))

noncomputable def spec_l12Cubes_l2 (vars : List Int) (i : Int) : Int × (List (List Int)) × (List (List Int)) → Option ((Int × (List (List Int)) × (List (List Int))) ⊕ ((Int × (List (List Int))) ⊕ (List (List Int)))) := fun (k_1, out2, next1) =>
  cond (decide (k_1 < (out2.length:Int))) (
    rq (0 ≤ k_1 ∧ k_1 < out2.length) <|
    rq (0 ≤ i ∧ i < vars.length) <|
    rq (([] : List Int).length + (out2.getD k_1.toNat []).length ≤ bound) <|
    rq ((([] : List Int) ++ (out2.getD k_1.toNat [])).length + [(vars.getD i.toNat 0)].length ≤ bound) <|
    rq (next1.length + [((([] : List Int) ++ (out2.getD k_1.toNat [])) ++ [(vars.getD i.toNat 0)])].length ≤ bound) <|
    spec_l12Cubes_j1 vars i k_1 out2 next1 ()) (
    rq (i64 (i + (1:Int))) <|
    some (.inr (.inl ((i + (1:Int)), next1))))

noncomputable def spec_l12Cubes_l1 (vars : List Int) : Int × (List (List Int)) → Option ((Int × (List (List Int))) ⊕ (List (List Int))) := fun (i, out1) =>
  cond (decide (i < (vars.length:Int))) (
    loop (spec_l12Cubes_l2 vars i) ((0:Int), out1, ([] : List (List Int)))) (
    some (.inr out1))

noncomputable def spec_l12Cubes (vars : List Int) : Option (List (List Int)) :=
  loop (spec_l12Cubes_l1 vars) ((0:Int), [([] : List Int)])

/-- spec.SplitCubes -/
noncomputable def spec_SplitCubes (vars : List Int) : Option (Bool × (List (List Int))) :=
  (spec_l12Vars vars).bind fun r1_ =>
  cond (!r1_) (
    some (false, ([] : List (List Int)))) (
    (spec_l12Cubes vars).bind fun r2_ =>
    some (true, r2_))

/-- impl.areVars -/
noncomputable def impl_areVars_l1 (vars : List Int) : Int → Option (Int ⊕ Bool) := fun i =>
  cond (decide (i < (vars.length:Int))) (
    rq (0 ≤ i ∧ i < vars.length) <|
    (impl_within (vars.getD i.toNat 0) (1:Int) (12:Int)).bind fun r1_ =>
    cond (!r1_) (
      some (.inr false)) (
      cond (decide ((0:Int) < i)) (
        rq (i64 (i - (1:Int))) <|
        rq (0 ≤ (i - (1:Int)) ∧ (i - (1:Int)) < vars.length) <|
        cond (decide ((vars.getD i.toNat 0) ≤ (vars.getD (i - (1:Int)).toNat 0))) (
          some (.inr false)) (
          rq (i64 (i + (1:Int))) <|
          some (.inl (i + (1:Int))))) (
        rq (i64 (i + (1:Int))) <|
        some (.inl (i + (1:Int)))))) (
    some (.inr true))

noncomputable def impl_areVars (vars : List Int) : Option Bool :=
  loop (impl_areVars_l1 vars) (0:Int)

/-- slices.Clone[[]int,int] -/
noncomputable def slices_Clone_int (s_ : List Int) : Option (List Int) :=
  nt (s_ = []) (
    some ([] : List Int)) (
    rq (([] : List Int).length + s_.length ≤ bound) <|
    some (([] : List Int) ++ s_))

/-- impl.cubesOf -/
noncomputable def impl_cubesOf_l2 (vars : List Int) (i : Int) (out : List (List Int)) : Int × (List (List Int)) × (List (List Int)) → Option ((Int × (List (List Int)) × (List (List Int))) ⊕ ((Int × (List (List Int))) ⊕ (List (List Int)))) := fun (i3, next1, i4) =>
  cond (decide (i3 < (out.length:Int))) (
    rq (0 ≤ i3 ∧ i3 < i4.length) <|
    (slices_Clone_int (i4.getD i3.toNat [])).bind fun r7_ =>
    rq (r7_.length + [(vars.getD i.toNat 0)].length ≤ bound) <|
    (slices_Clone_int (i4.getD i3.toNat [])).bind fun r8_ =>
    rq (i64 (0 - (vars.getD i.toNat 0))) <|
    rq (r8_.length + [(0 - (vars.getD i.toNat 0))].length ≤ bound) <|
    rq (next1.length + [(r7_ ++ [(vars.getD i.toNat 0)]), (r8_ ++ [(0 - (vars.getD i.toNat 0))])].length ≤ bound) <|
    rq (i64 (i3 + (1:Int))) <|
    some (.inl ((i3 + (1:Int)), (next1 ++ [(r7_ ++ [(vars.getD i.toNat 0)]), (r8_ ++ [(0 - (vars.getD i.toNat 0))])]), (i4.set i3.toNat (i4.getD i3.toNat []))))) (
    rq (i64 (i + (1:Int))) <|
    some (.inr (.inl ((i + (1:Int)), next1))))

noncomputable def impl_cubesOf_l1 (vars : List Int) : Int × (List (List Int)) → Option ((Int × (List (List Int))) ⊕ (List (List Int))) := fun (i, out) =>
  cond (decide (i < (vars.length:Int))) (
    rq (0 ≤ i ∧ i < vars.length) <|
    loop (impl_cubesOf_l2 vars i out) ((0:Int), ([] : List (List Int)), out)) (
    some (.inr out))

noncomputable def impl_cubesOf (vars : List Int) : Option (List (List Int)) :=
  loop (impl_cubesOf_l1 vars) ((0:Int), [([] : List Int)])

/-- impl.SplitCubes -/
noncomputable def impl_SplitCubes (vars : List Int) : Option (Bool × (List (List Int))) :=
  (impl_areVars vars).bind fun r1_ =>
  cond (!r1_) (
    some (false, ([] : List (List Int)))) (
    cond (decide ((4:Int) < (vars.length:Int))) (
      some (false, ([] : List (List Int)))) (
      (impl_cubesOf vars).bind fun r2_ =>
      some (true, r2_)))

/-- laws.eqIntSS -/
noncomputable def laws_eqIntSS_l1 (a : List (List Int)) (b : List (List Int)) : Int → Option (Int ⊕ Bool) := fun i =>
  cond (decide (i < (a.length:Int))) (
    rq (0 ≤ i ∧ i < a.length) <|
    rq (0 ≤ i ∧ i < b.length) <|
    (laws_eqIntS (a.getD i.toNat []) (b.getD i.toNat [])).bind fun r2_ =>
    cond (!r2_) (
      some (.inr false)) (
      rq (i64 (i + (1:Int))) <|
      some (.inl (i + (1:Int))))) (
    some (.inr true))

noncomputable def laws_eqIntSS (a : List (List Int)) (b : List (List Int)) : Option Bool :=
  cond ((a.length:Int) != (b.length:Int)) (
    some false) (
    loop (laws_eqIntSS_l1 a b) (0:Int))

/-- laws.markIntS -/
noncomputable def laws_markIntS_l1 : Int × Int × (List Int) → Option ((Int × Int × (List Int)) ⊕ (Int × (List Int))) := fun (k_1, i, a1) =>
  cond (decide (i < (a1.length:Int))) (
    rq (0 ≤ i ∧ i < a1.length) <|
    rq (i64 (k_1 + (1:Int))) <|
    rq (i64 (i + (1:Int))) <|
    some (.inl ((k_1 + (1:Int)), (i + (1:Int)), (a1.set i.toNat k_1)))) (
    some (.inr (k_1, a1)))

noncomputable def laws_markIntS (k_ : Int) (a : List Int) : Option (Int × (List Int)) :=
  loop (laws_markIntS_l1) (k_, (0:Int), a)

/-- laws.markIntS -/
noncomputable def laws_markIntS_v2_l1 : Int × Int × (List Int) → Option ((Int × Int × (List Int)) ⊕ (Int × (List Int))) := fun (k_1, i, a1) =>
  cond (decide (i < (a1.length:Int))) (
    rq (0 ≤ i ∧ i < a1.length) <|
    rq (i64 (k_1 + (1:Int))) <|
    rq (i64 (i + (1:Int))) <|
    some (.inl ((k_1 + (1:Int)), (i + (1:Int)), (a1.set i.toNat k_1)))) (
    some (.inr (k_1, a1)))

noncomputable def laws_markIntS_v2 (k_ : Int) (a : List Int) : Option (Int × (List Int)) :=
  loop (laws_markIntS_v2_l1) (k_, (0:Int), a)

/-- laws.markIntSS -/
noncomputable def laws_markIntSS_l1 : Int × Int × (List (List Int)) → Option ((Int × Int × (List (List Int))) ⊕ (Int × (List (List Int)))) := fun (k_1, i, a1) =>
  cond (decide (i < (a1.length:Int))) (
    rq (0 ≤ i ∧ i < a1.length) <|
    (laws_markIntS_v2 k_1 (a1.getD i.toNat [])).bind fun r2_ =>
    rq (i64 (i + (1:Int))) <|
    some (.inl (r2_.1, (i + (1:Int)), (a1.set i.toNat r2_.2)))) (
    some (.inr (k_1, a1)))

noncomputable def laws_markIntSS (k_ : Int) (a : List (List Int)) : Option (Int × (List (List Int))) :=
  loop (laws_markIntSS_l1) (k_, (0:Int), a)

/-- laws.heldIntS -/
noncomputable def laws_heldIntS_l1 (a : List Int) : Int × Int → Option ((Int × Int) ⊕ Int) := fun (k_1, i) =>
  cond (decide (i < (a.length:Int))) (
    rq (0 ≤ i ∧ i < a.length) <|
    cond ((a.getD i.toNat 0) != k_1) (
      some (.inr (-1:Int))) (
      rq (i64 (k_1 + (1:Int))) <|
      rq (i64 (i + (1:Int))) <|
      some (.inl ((k_1 + (1:Int)), (i + (1:Int)))))) (
    some (.inr k_1))

noncomputable def laws_heldIntS (a : List Int) (k_ : Int) : Option Int :=
  loop (laws_heldIntS_l1 a) (k_, (0:Int))

/-- laws.heldIntSS -/
noncomputable def laws_heldIntSS_l1 (a : List (List Int)) : Int × Int → Option ((Int × Int) ⊕ Int) := fun (k_1, i) =>
  cond (decide (i < (a.length:Int))) (
    rq (0 ≤ i ∧ i < a.length) <|
    (laws_heldIntS (a.getD i.toNat []) k_1).bind fun r1_ =>
    cond (decide (r1_ < (0:Int))) (
      some (.inr (-1:Int))) (
      rq (i64 (i + (1:Int))) <|
      some (.inl (r1_, (i + (1:Int)))))) (
    some (.inr k_1))

noncomputable def laws_heldIntSS (a : List (List Int)) (k_ : Int) : Option Int :=
  loop (laws_heldIntSS_l1 a) (k_, (0:Int))

/-- laws.FnExactSplitCubes -/
noncomputable def laws_FnExactSplitCubes (a0 : List Int) : Option Bool :=
  cond (decide ((1048576:Int) < (a0.length:Int))) (
    some true) (
    (laws_toIntS a0).bind fun r1_ =>
    (spec_SplitCubes r1_).bind fun r2_ =>
    (laws_toIntS a0).bind fun r3_ =>
    (impl_SplitCubes r3_).bind fun r4_ =>
    (laws_eqIntSS r4_.2 r2_.2).bind fun r5_ =>
    cond (!r5_) (
      some false) (
      cond (r4_.1 != r2_.1) (
        some false) (
        (laws_toIntS a0).bind fun r6_ =>
        (laws_eqIntS r3_ r6_).bind fun r7_ =>
        cond (!r7_) (
          some false) (
          (laws_markIntS (1:Int) r3_).bind fun r8_ =>
          cond (decide (r8_.1 < (0:Int))) (
            some false) (
            (laws_eqIntSS r4_.2 r2_.2).bind fun r9_ =>
            cond (!r9_) (
              some false) (
              cond (r4_.1 != r2_.1) (
                some false) (
                (laws_markIntSS (1:Int) r4_.2).bind fun r10_ =>
                (laws_heldIntSS r10_.2 (1:Int)).bind fun r11_ =>
                cond (decide (r11_ < (0:Int))) (
                  some false) (
                  cond (r11_ != r10_.1) (
                    some false) (
                    (laws_toIntS a0).bind fun r12_ =>
                    (impl_SplitCubes r12_).bind fun r13_ =>
                    (laws_eqIntSS r13_.2 r2_.2).bind fun r14_ =>
                    cond (!r14_) (
                      some false) (
                      cond (r13_.1 != r2_.1) (
                        some false) (
                        (laws_heldIntSS r10_.2 (1:Int)).bind fun r15_ =>
                        cond (decide (r15_ < (0:Int))) (
                          some false) (
                          cond (r15_ != r10_.1) (
                            some false) (
                            some true)))))))))))))

/-- spec.l17Open -/
noncomputable def spec_l17Open_j1 : (List Int) → Option (((List Int) × Int)) := fun code1 =>
  some (code1, (0:Int))

noncomputable def spec_l17Open (code : List Int) : Option (((List Int) × Int)) :=
  cond (decide ((2000:Int) < (code.length:Int))) (
    rq (0 ≤ (2000:Int) ∧ (2000:Int) ≤ code.length) <|
    spec_l17Open_j1 (code.take (2000:Int).toNat)) (
    spec_l17Open_j1 code)

/-- (*spec.l17Rd).pick -/
noncomputable def spec_l17Rd_pick (a1 : Int) (o0 : (List Int) × Int) : Option (Int × ((List Int) × Int)) :=
  rq (i64 (o0.2 + (1:Int))) <|
  cond (decide (a1 < (1:Int))) (
    some ((0:Int), (o0.1, (o0.2 + (1:Int))))) (
    cond ((o0.1.length:Int) == (0:Int)) (
      some ((0:Int), (o0.1, (o0.2 + (1:Int))))) (
      rq (i64 ((o0.2 + (1:Int)) - (1:Int))) <|
      cond (decide (((o0.2 + (1:Int)) - (1:Int)) < (o0.1.length:Int))) (
        rq (0 ≤ ((o0.2 + (1:Int)) - (1:Int)) ∧ ((o0.2 + (1:Int)) - (1:Int)) < o0.1.length) <|
        rq (i64 (o0.1.getD ((o0.2 + (1:Int)) - (1:Int)).toNat 0)) <|
        rq (1 ≤ a1 ∧ 0 ≤ (o0.1.getD ((o0.2 + (1:Int)) - (1:Int)).toNat 0)) <|
        some (((o0.1.getD ((o0.2 + (1:Int)) - (1:Int)).toNat 0) % a1), (o0.1, (o0.2 + (1:Int))))) (
        rq (1 ≤ (o0.1.length:Int) ∧ 0 ≤ ((o0.2 + (1:Int)) - (1:Int))) <|
        rq (0 ≤ (((o0.2 + (1:Int)) - (1:Int)) % (o0.1.length:Int)) ∧ (((o0.2 + (1:Int)) - (1:Int)) % (o0.1.length:Int)) < o0.1.length) <|
        rq (i64 (o0.1.getD (((o0.2 + (1:Int)) - (1:Int)) % (o0.1.length:Int)).toNat 0)) <|
        rq (i64 ((o0.1.getD (((o0.2 + (1:Int)) - (1:Int)) % (o0.1.length:Int)).toNat 0) * (131:Int))) <|
        rq (i64 (((o0.2 + (1:Int)) - (1:Int)) * (7:Int))) <|
        rq (i64 ((((o0.2 + (1:Int)) - (1:Int)) * (7:Int)) + (3:Int))) <|
        rq (1 ≤ (o0.1.length:Int) ∧ 0 ≤ ((((o0.2 + (1:Int)) - (1:Int)) * (7:Int)) + (3:Int))) <|
        rq (0 ≤ (((((o0.2 + (1:Int)) - (1:Int)) * (7:Int)) + (3:Int)) % (o0.1.length:Int)) ∧ (((((o0.2 + (1:Int)) - (1:Int)) * (7:Int)) + (3:Int)) % (o0.1.length:Int)) < o0.1.length) <|
        rq (i64 (o0.1.getD (((((o0.2 + (1:Int)) - (1:Int)) * (7:Int)) + (3:Int)) % (o0.1.length:Int)).toNat 0)) <|
        rq (i64 ((o0.1.getD (((((o0.2 + (1:Int)) - (1:Int)) * (7:Int)) + (3:Int)) % (o0.1.length:Int)).toNat 0) * (1117:Int))) <|
        rq (i64 (((o0.1.getD (((o0.2 + (1:Int)) - (1:Int)) % (o0.1.length:Int)).toNat 0) * (131:Int)) + ((o0.1.getD (((((o0.2 + (1:Int)) - (1:Int)) * (7:Int)) + (3:Int)) % (o0.1.length:Int)).toNat 0) * (1117:Int)))) <|
        rq (i64 (((o0.2 + (1:Int)) - (1:Int)) * (29:Int))) <|
        rq (i64 ((((o0.1.getD (((o0.2 + (1:Int)) - (1:Int)) % (o0.1.length:Int)).toNat 0) * (131:Int)) + ((o0.1.getD (((((o0.2 + (1:Int)) - (1:Int)) * (7:Int)) + (3:Int)) % (o0.1.length:Int)).toNat 0) * (1117:Int))) + (((o0.2 + (1:Int)) - (1:Int)) * (29:Int)))) <|
        rq (1 ≤ (o0.1.length:Int) ∧ 0 ≤ ((o0.2 + (1:Int)) - (1:Int))) <|
        rq (i64 ((((o0.2 + (1:Int)) - (1:Int)) / (o0.1.length:Int)) * (53:Int))) <|
        rq (i64 (((((o0.1.getD (((o0.2 + (1:Int)) - (1:Int)) % (o0.1.length:Int)).toNat 0) * (131:Int)) + ((o0.1.getD (((((o0.2 + (1:Int)) - (1:Int)) * (7:Int)) + (3:Int)) % (o0.1.length:Int)).toNat 0) * (1117:Int))) + (((o0.2 + (1:Int)) - (1:Int)) * (29:Int))) + ((((o0.2 + (1:Int)) - (1:Int)) / (o0.1.length:Int)) * (53:Int)))) <|
        rq (1 ≤ (64:Int) ∧ 0 ≤ (((((o0.1.getD (((o0.2 + (1:Int)) - (1:Int)) % (o0.1.length:Int)).toNat 0) * (131:Int)) + ((o0.1.getD (((((o0.2 + (1:Int)) - (1:Int)) * (7:Int)) + (3:Int)) % (o0.1.length:Int)).toNat 0) * (1117:Int))) + (((o0.2 + (1:Int)) - (1:Int)) * (29:Int))) + ((((o0.2 + (1:Int)) - (1:Int)) / (o0.1.length:Int)) * (53:Int)))) <|
        rq (0 ≤ (((((o0.1.getD (((o0.2 + (1:Int)) - (1:Int)) % (o0.1.length:Int)).toNat 0) * (131:Int)) + ((o0.1.getD (((((o0.2 + (1:Int)) - (1:Int)) * (7:Int)) + (3:Int)) % (o0.1.length:Int)).toNat 0) * (1117:Int))) + (((o0.2 + (1:Int)) - (1:Int)) * (29:Int))) + ((((o0.2 + (1:Int)) - (1:Int)) / (o0.1.length:Int)) * (53:Int))) ∧ 0 ≤ ((((((o0.1.getD (((o0.2 + (1:Int)) - (1:Int)) % (o0.1.length:Int)).toNat 0) * (131:Int)) + ((o0.1.getD (((((o0.2 + (1:Int)) - (1:Int)) * (7:Int)) + (3:Int)) % (o0.1.length:Int)).toNat 0) * (1117:Int))) + (((o0.2 + (1:Int)) - (1:Int)) * (29:Int))) + ((((o0.2 + (1:Int)) - (1:Int)) / (o0.1.length:Int)) * (53:Int))) / (64:Int))) <|
        rq (1 ≤ a1 ∧ 0 ≤ (((((((o0.1.getD (((o0.2 + (1:Int)) - (1:Int)) % (o0.1.length:Int)).toNat 0) * (131:Int)) + ((o0.1.getD (((((o0.2 + (1:Int)) - (1:Int)) * (7:Int)) + (3:Int)) % (o0.1.length:Int)).toNat 0) * (1117:Int))) + (((o0.2 + (1:Int)) - (1:Int)) * (29:Int))) + ((((o0.2 + (1:Int)) - (1:Int)) / (o0.1.length:Int)) * (53:Int))).toNat ^^^ ((((((o0.1.getD (((o0.2 + (1:Int)) - (1:Int)) % (o0.1.length:Int)).toNat 0) * (131:Int)) + ((o0.1.getD (((((o0.2 + (1:Int)) - (1:Int)) * (7:Int)) + (3:Int)) % (o0.1.length:Int)).toNat 0) * (1117:Int))) + (((o0.2 + (1:Int)) - (1:Int)) * (29:Int))) + ((((o0.2 + (1:Int)) - (1:Int)) / (o0.1.length:Int)) * (53:Int))) / (64:Int)).toNat : Nat) : Int)) <|
        some (((((((((o0.1.getD (((o0.2 + (1:Int)) - (1:Int)) % (o0.1.length:Int)).toNat 0) * (131:Int)) + ((o0.1.getD (((((o0.2 + (1:Int)) - (1:Int)) * (7:Int)) + (3:Int)) % (o0.1.length:Int)).toNat 0) * (1117:Int))) + (((o0.2 + (1:Int)) - (1:Int)) * (29:Int))) + ((((o0.2 + (1:Int)) - (1:Int)) / (o0.1.length:Int)) * (53:Int))).toNat ^^^ ((((((o0.1.getD (((o0.2 + (1:Int)) - (1:Int)) % (o0.1.length:Int)).toNat 0) * (131:Int)) + ((o0.1.getD (((((o0.2 + (1:Int)) - (1:Int)) * (7:Int)) + (3:Int)) % (o0.1.length:Int)).toNat 0) * (1117:Int))) + (((o0.2 + (1:Int)) - (1:Int)) * (29:Int))) + ((((o0.2 + (1:Int)) - (1:Int)) / (o0.1.length:Int)) * (53:Int))) / (64:Int)).toNat : Nat) : Int) % a1), (o0.1, (o0.2 + (1:Int)))))))

/-- (*spec.l17Rd).num -/
noncomputable def spec_l17Rd_num (list_ : List Int) (r_ : (List Int) × Int) : Option (Int × ((List Int) × Int)) :=
  (spec_l17Rd_pick (list_.length:Int) r_).bind fun r1_ =>
  rq (0 ≤ r1_.1 ∧ r1_.1 < list_.length) <|
  some ((list_.getD r1_.1.toNat 0), r1_.2)

/-- spec.l12Draw -/
noncomputable def spec_l12Draw_j1 : ((List Int) × Int) × (List Int) → Option (((List Int) × Int) × (List Int)) := fun (r_2, out1) =>
  (spec_l17Rd_pick (30:Int) r_2).bind fun r3_ =>
  cond (r3_.1 == (0:Int)) (
    (spec_l17Rd_num [(1:Int), (13:Int), (0:Int), (-2:Int)] r3_.2).bind fun r4_ =>
    rq (out1.length + [r4_.1].length ≤ bound) <|
    some (r4_.2, (out1 ++ [r4_.1]))) (
    cond (r3_.1 == (1:Int)) (
      some (r3_.2, [(1:Int), (2:Int), (3:Int), (4:Int), (5:Int)])) (
      cond (r3_.1 == (2:Int)) (
        some (r3_.2, [(2:Int), (4:Int), (6:Int), (12:Int)])) (
        some (r3_.2, out1))))

noncomputable def spec_l12Draw_l1 : Int × ((List Int) × Int) × (List Int) → Option ((Int × ((List Int) × Int) × (List Int)) ⊕ (((List Int) × Int) × (List Int))) := fun (v, r_1, out) =>
  cond (decide (v ≤ (5:Int))) (
    (spec_l17Rd_pick (2:Int) r_1).bind fun r2_ =>
    cond (r2_.1 == (0:Int)) (
      cond (decide ((out.length:Int) < (3:Int))) (
        rq (out.length + [v].length ≤ bound) <|
        rq (i64 (v + (1:Int))) <|
        some (.inl ((v + (1:Int)), r2_.2, (out ++ [v])))) (
        rq (i64 (v + (1:Int))) <|
        some (.inl ((v + (1:Int)), r2_.2, out)))) (
      rq (i64 (v + (1:Int))) <|
      some (.inl ((v + (1:Int)), r2_.2, out)))) (
    up (spec_l12Draw_j1 (r_1, out)))

noncomputable def spec_l12Draw (r_ : (List Int) × Int) : Option (((List Int) × Int) × (List Int)) :=
  loop (spec_l12Draw_l1) ((1:Int), r_, ([] : List Int))

/-- spec.l12Signed -/
noncomputable def spec_l12Signed_l1 : Int × ((List Int) × Int) × (List Int) → Option ((Int × ((List Int) × Int) × (List Int)) ⊕ (((List Int) × Int) × (List Int))) := fun (i, r_1, out) =>
  cond (decide (i < (out.length:Int))) (
    (spec_l17Rd_pick (2:Int) r_1).bind fun r3_ =>
    cond (r3_.1 == (0:Int)) (
      rq (0 ≤ i ∧ i < out.length) <|
      rq (i64 (0 - (out.getD i.toNat 0))) <|
      rq (0 ≤ i ∧ i < out.length) <|
      rq (i64 (i + (1:Int))) <|
      some (.inl ((i + (1:Int)), r3_.2, (out.set i.toNat (0 - (out.getD i.toNat 0)))))) (
      rq (i64 (i + (1:Int))) <|
      some (.inl ((i + (1:Int)), r3_.2, out)))) (
    some (.inr (r_1, out)))

noncomputable def spec_l12Signed (r_ : (List Int) × Int) : Option (((List Int) × Int) × (List Int)) :=
  (spec_l12Draw r_).bind fun r1_ =>
  loop (spec_l12Signed_l1) ((0:Int), r1_.1, r1_.2)

/-- spec.l1Values -/
noncomputable def spec_l1Values_j1 : ((List Int) × Int) × (List Bool) → Option (((List Int) × Int) × (List Bool)) := fun (r_2, out1) =>
  (spec_l17Rd_pick (40:Int) r_2).bind fun r3_ =>
  cond (r3_.1 == (0:Int)) (
    rq (0 ≤ (11:Int) ∧ (11:Int) ≤ out1.length) <|
    some (r3_.2, (out1.take (11:Int).toNat))) (
    some (r3_.2, out1))

noncomputable def spec_l1Values_l1 : Int × ((List Int) × Int) × (List Bool) → Option ((Int × ((List Int) × Int) × (List Bool)) ⊕ (((List Int) × Int) × (List Bool))) := fun (i, r_1, out) =>
  cond (decide (i < (12:Int))) (
    (spec_l17Rd_pick (2:Int) r_1).bind fun r2_ =>
    rq (out.length + [(r2_.1 == (0:Int))].length ≤ bound) <|
    rq (i64 (i + (1:Int))) <|
    some (.inl ((i + (1:Int)), r2_.2, (out ++ [(r2_.1 == (0:Int))])))) (
    up (spec_l1Values_j1 (r_1, out)))

noncomputable def spec_l1Values (r_ : (List Int) × Int) : Option (((List Int) × Int) × (List Bool)) :=
  loop (spec_l1Values_l1) ((0:Int), r_, ([] : List Bool))

/-- spec.DrawCubeHolds -/
noncomputable def spec_DrawCubeHolds_j1 (r2_ : ((List Int) × Int) × (List Int)) : (List Bool) → Option ((List Int) × (List Bool)) := fun values1 =>
  some (r2_.2, values1)

noncomputable def spec_DrawCubeHolds_l1 (r2_ : ((List Int) × Int) × (List Int)) : Int × ((List Int) × Int) × (List Bool) → Option ((Int × ((List Int) × Int) × (List Bool)) ⊕ ((List Int) × (List Bool))) := fun (i, r_, values) =>
  cond (decide (i < (r2_.2.length:Int))) (
    (spec_l17Rd_pick (6:Int) r_).bind fun r6_ =>
    cond (decide ((0:Int) < r6_.1)) (
      rq (0 ≤ i ∧ i < r2_.2.length) <|
      (spec_l1Abs (r2_.2.getD i.toNat 0)).bind fun r7_ =>
      cond (decide ((1:Int) ≤ r7_)) (
        cond (decide (r7_ ≤ (values.length:Int))) (
          rq (i64 (r7_ - (1:Int))) <|
          rq (0 ≤ i ∧ i < r2_.2.length) <|
          rq (0 ≤ (r7_ - (1:Int)) ∧ (r7_ - (1:Int)) < values.length) <|
          rq (i64 (i + (1:Int))) <|
          some (.inl ((i + (1:Int)), r6_.2, (values.set (r7_ - (1:Int)).toNat (decide ((0:Int) < (r2_.2.getD i.toNat 0))))))) (
          rq (i64 (i + (1:Int))) <|
          some (.inl ((i + (1:Int)), r6_.2, values)))) (
        rq (i64 (i + (1:Int))) <|
        some (.inl ((i + (1:Int)), r6_.2, values)))) (
      up (spec_DrawCubeHolds_j1 r2_ values))) (
    up (spec_DrawCubeHolds_j1 r2_ values))

noncomputable def spec_DrawCubeHolds (code : List Int) : Option ((List Int) × (List Bool)) :=
  (spec_l17Open code).bind fun r1_ =>
  (spec_l12Signed r1_).bind fun r2_ =>
  (spec_l1Values r2_.1).bind fun r3_ =>
  loop (spec_DrawCubeHolds_l1 r2_) ((0:Int), r3_.1, r3_.2)

/-- laws.FnCubeHolds -/
noncomputable def laws_FnCubeHolds_l1 (r1_ : (List Int) × (List Bool)) : Int → Option (Int ⊕ Bool) := fun i =>
  cond (decide (i < (r1_.1.length:Int))) (
    rq (([] : List Int).length + r1_.1.length ≤ bound) <|
    rq (0 ≤ i ∧ i < (([] : List Int) ++ r1_.1).length) <|
    rq (i64 (0 - ((([] : List Int) ++ r1_.1).getD i.toNat 0))) <|
    rq (0 ≤ i ∧ i < (([] : List Int) ++ r1_.1).length) <|
    (impl_CubeHolds ((([] : List Int) ++ r1_.1).set i.toNat (0 - ((([] : List Int) ++ r1_.1).getD i.toNat 0))) r1_.2).bind fun r11_ =>
    cond r11_ (
      some (.inr false)) (
      rq (i64 (i + (1:Int))) <|
      some (.inl (i + (1:Int))))) (
    some (.inr true))

noncomputable def laws_FnCubeHolds (a0 : List Int) : Option Bool :=
  cond (decide ((1048576:Int) < (a0.length:Int))) (
    some true) (
    (spec_DrawCubeHolds a0).bind fun r1_ =>
    (impl_CubeHolds r1_.1 r1_.2).bind fun r2_ =>
    (spec_CubeHolds r1_.1 r1_.2).bind fun r3_ =>
    cond (r2_ != r3_) (
      (spec_CubeHolds r1_.1 r1_.2).bind fun r9_ =>
      cond (r2_ == r9_) (
        (impl_CubeHolds ([] : List Int) r1_.2).bind fun r10_ =>
        some (r10_ == ((r1_.2.length:Int) == (12:Int)))) (
        some false)) (
      (impl_CubeHolds ([] : List Int) r1_.2).bind fun r4_ =>
      cond (r4_ != ((r1_.2.length:Int) == (12:Int))) (
        (spec_CubeHolds r1_.1 r1_.2).bind fun r7_ =>
        cond (r2_ == r7_) (
          (impl_CubeHolds ([] : List Int) r1_.2).bind fun r8_ =>
          some (r8_ == ((r1_.2.length:Int) == (12:Int)))) (
          some false)) (
        cond (!r2_) (
          (spec_CubeHolds r1_.1 r1_.2).bind fun r5_ =>
          cond (r2_ == r5_) (
            (impl_CubeHolds ([] : List Int) r1_.2).bind fun r6_ =>
            some (r6_ == ((r1_.2.length:Int) == (12:Int)))) (
            some false)) (
          loop (laws_FnCubeHolds_l1 r1_) (0:Int)))))

/-- spec.DrawSplitCubes -/
noncomputable def spec_DrawSplitCubes (code : List Int) : Option (List Int) :=
  (spec_l17Open code).bind fun r1_ =>
  (spec_l12Draw r1_).bind fun r2_ =>
  some r2_.2

/-- laws.cpInts -/
noncomputable def laws_cpInts_l1 (a : List Int) (b : List Int) : Int → Option (Int ⊕ Bool) := fun i =>
  cond (decide (i < (a.length:Int))) (
    rq (0 ≤ i ∧ i < a.length) <|
    rq (0 ≤ i ∧ i < b.length) <|
    cond ((a.getD i.toNat 0) != (b.getD i.toNat 0)) (
      some (.inr false)) (
      rq (i64 (i + (1:Int))) <|
      some (.inl (i + (1:Int))))) (
    some (.inr true))

noncomputable def laws_cpInts (a : List Int) (b : List Int) : Option Bool :=
  cond ((a.length:Int) != (b.length:Int)) (
    some false) (
    loop (laws_cpInts_l1 a b) (0:Int))

/-- laws.cpLists -/
noncomputable def laws_cpLists_l1 (a : List (List Int)) (b : List (List Int)) : Int → Option (Int ⊕ Bool) := fun i =>
  cond (decide (i < (a.length:Int))) (
    rq (0 ≤ i ∧ i < a.length) <|
    rq (0 ≤ i ∧ i < b.length) <|
    (laws_cpInts (a.getD i.toNat []) (b.getD i.toNat [])).bind fun r2_ =>
    cond (!r2_) (
      some (.inr false)) (
      rq (i64 (i + (1:Int))) <|
      some (.inl (i + (1:Int))))) (
    some (.inr true))

noncomputable def laws_cpLists (a : List (List Int)) (b : List (List Int)) : Option Bool :=
  cond ((a.length:Int) != (b.length:Int)) (
    some false) (
    loop (laws_cpLists_l1 a b) (0:Int))

/-- laws.FnSplitCubes -/
noncomputable def laws_FnSplitCubes_j1 (r1_ : (List Int)) : Int × (List (List Int)) → Option Bool := fun (i3, i4) =>
  cond (i3 == (1:Int)) (
    rq ((0 ≤ (r1_.length:Int) ∧ (r1_.length:Int) ≤ 62) ∧ i64 ((1:Int) * 2 ^ (r1_.length:Int).toNat)) <|
    some ((i4.length:Int) == ((1:Int) * 2 ^ (r1_.length:Int).toNat))) (
    some false)

noncomputable def laws_FnSplitCubes_l1 (r1_ : (List Int)) (r2_ : (List Int) × (List Bool)) : Int × Int × (List (List Int)) → Option ((Int × Int × (List (List Int))) ⊕ Bool) := fun (i, i1, i2) =>
  cond (decide (i1 < (i2.length:Int))) (
    rq (0 ≤ i1 ∧ i1 < i2.length) <|
    (impl_CubeHolds (i2.getD i1.toNat []) r2_.2).bind fun r11_ =>
    cond r11_ (
      rq (i64 (i + (1:Int))) <|
      rq (i64 (i1 + (1:Int))) <|
      some (.inl ((i + (1:Int)), (i1 + (1:Int)), (i2.set i1.toNat (i2.getD i1.toNat []))))) (
      rq (i64 (i1 + (1:Int))) <|
      some (.inl (i, (i1 + (1:Int)), (i2.set i1.toNat (i2.getD i1.toNat [])))))) (
    up (laws_FnSplitCubes_j1 r1_ (i, i2)))

noncomputable def laws_FnSplitCubes (a0 : List Int) (a1 : List Int) : Option Bool :=
  cond (decide ((1048576:Int) < (a0.length:Int))) (
    some true) (
    cond (decide ((1048576:Int) < (a1.length:Int))) (
      some true) (
      (spec_DrawSplitCubes a0).bind fun r1_ =>
      (spec_DrawCubeHolds a1).bind fun r2_ =>
      (impl_SplitCubes r1_).bind fun r3_ =>
      (spec_SplitCubes r1_).bind fun r4_ =>
      cond (r3_.1 != r4_.1) (
        cond (r3_.1 == r4_.1) (
          (laws_cpLists r3_.2 r4_.2).bind fun r9_ =>
          some r9_) (
          some false)) (
        (laws_cpLists r3_.2 r4_.2).bind fun r5_ =>
        cond (!r5_) (
          cond (r3_.1 == r4_.1) (
            (laws_cpLists r3_.2 r4_.2).bind fun r8_ =>
            some r8_) (
            some false)) (
          cond (!r3_.1) (
            cond (r3_.1 == r4_.1) (
              (laws_cpLists r3_.2 r4_.2).bind fun r7_ =>
              some r7_) (
              some false)) (
            cond ((r2_.2.length:Int) != (12:Int)) (
              cond (r3_.1 == r4_.1) (
                (laws_cpLists r3_.2 r4_.2).bind fun r6_ =>
                some r6_) (
                some false)) (
              loop (laws_FnSplitCubes_l1 r1_ r2_) ((0:Int), (0:Int), r3_.2)))))))

/-- spec.l1Total -/
noncomputable def spec_l1Total_l1 (c_ : (List (Int × Int)) × Int) : Int × Int → Option ((Int × Int) ⊕ Int) := fun (n, i) =>
  cond (decide (i < (c_.1.length:Int))) (
    rq (0 ≤ i ∧ i < c_.1.length) <|
    rq (i64 (n + (c_.1.getD i.toNat (0, 0)).1)) <|
    rq (i64 (i + (1:Int))) <|
    some (.inl ((n + (c_.1.getD i.toNat (0, 0)).1), (i + (1:Int))))) (
    some (.inr n))

noncomputable def spec_l1Total (c_ : (List (Int × Int)) × Int) : Option Int :=
  loop (spec_l1Total_l1 c_) ((0:Int), (0:Int))

/-- spec.l1Draw -/
noncomputable def spec_l1Draw_j1 : ((List Int) × Int) × (List (Int × Int)) → Option (((List Int) × Int) × Int × (List (Int × Int))) := fun (r_4, c_01) =>
  (spec_l1Total (c_01, (0:Int))).bind fun r7_ =>
  (spec_l17Rd_num [(1:Int), (2:Int), (1:Int), (3:Int), (0:Int)] r_4).bind fun r8_ =>
  (spec_l17Rd_pick (4:Int) r8_.2).bind fun r9_ =>
  cond (r9_.1 == (0:Int)) (
    rq (i64 (r7_ + (2:Int))) <|
    (spec_l17Rd_pick (r7_ + (2:Int)) r9_.2).bind fun r10_ =>
    some (r10_.2, r10_.1, c_01)) (
    some (r9_.2, r8_.1, c_01))

noncomputable def spec_l1Draw_j2 (v : Int) (c_0 : List (Int × Int)) : ((List Int) × Int) × (Int × Int) → Option ((Int × ((List Int) × Int) × (List (Int × Int))) ⊕ (((List Int) × Int) × Int × (List (Int × Int)))) := fun (r_3, t_1) =>
  rq (c_0.length + [t_1].length ≤ bound) <|
  rq (i64 (v + (1:Int))) <|
  some (.inl ((v + (1:Int)), r_3, (c_0 ++ [t_1])))

noncomputable def spec_l1Draw_l1 (most : Int) : Int × ((List Int) × Int) × (List (Int × Int)) → Option ((Int × ((List Int) × Int) × (List (Int × Int))) ⊕ (((List Int) × Int) × Int × (List (Int × Int)))) := fun (v, r_2, c_0) =>
  cond (decide (v ≤ most)) (
    (spec_l17Rd_pick (2:Int) r_2).bind fun r4_ =>
    cond (r4_.1 == (0:Int)) (
      (spec_l17Rd_num [(1:Int), (1:Int), (2:Int), (3:Int), (1:Int), (5:Int), (4:Int)] r4_.2).bind fun r5_ =>
      (spec_l17Rd_pick (2:Int) r5_.2).bind fun r6_ =>
      cond (r6_.1 == (0:Int)) (
        rq (i64 (0 - v)) <|
        spec_l1Draw_j2 v c_0 (r6_.2, (r5_.1, (0 - v)))) (
        spec_l1Draw_j2 v c_0 (r6_.2, (r5_.1, v)))) (
      rq (i64 (v + (1:Int))) <|
      some (.inl ((v + (1:Int)), r4_.2, c_0)))) (
    up (spec_l1Draw_j1 (r_2, c_0)))

noncomputable def spec_l1Draw (most : Int) (r_ : (List Int) × Int) : Option (((List Int) × Int) × Int × (List (Int × Int))) :=
  loop (spec_l1Draw_l1 most) ((1:Int), r_, ([] : List (Int × Int)))

/-- spec.l3Problem -/
noncomputable def spec_l3Problem_l1 (r1_ : Int × ((List Int) × Int)) : Int × ((List Int) × Int) × (List ((List (Int × Int)) × Int)) → Option ((Int × ((List Int) × Int) × (List ((List (Int × Int)) × Int))) ⊕ (((List Int) × Int) × (List ((List (Int × Int)) × Int)))) := fun (i, r_1, out) =>
  cond (decide ((0:Int) < i)) (
    (spec_l1Draw r1_.1 r_1).bind fun r4_ =>
    rq (out.length + [(r4_.2.2, r4_.2.1)].length ≤ bound) <|
    rq (i64 (i - (1:Int))) <|
    some (.inl ((i - (1:Int)), r4_.1, (out ++ [(r4_.2.2, r4_.2.1)])))) (
    some (.inr (r_1, out)))

noncomputable def spec_l3Problem (r_ : (List Int) × Int) : Option (((List Int) × Int) × (List ((List (Int × Int)) × Int))) :=
  (spec_l17Rd_num [(4:Int), (5:Int), (3:Int), (6:Int)] r_).bind fun r1_ =>
  (spec_l17Rd_num [(4:Int), (6:Int), (3:Int), (8:Int), (2:Int), (1:Int), (0:Int)] r1_.2).bind fun r2_ =>
  loop (spec_l3Problem_l1 r1_) (r2_.1, r2_.2, ([] : List ((List (Int × Int)) × Int)))

/-- spec.l1Copy -/
noncomputable def spec_l1Copy (c_ : (List (Int × Int)) × Int) : Option (Int × (List (Int × Int))) :=
  rq (([] : List (Int × Int)).length + c_.1.length ≤ bound) <|
  some (c_.2, (([] : List (Int × Int)) ++ c_.1))

/-- spec.l1Mutate -/
noncomputable def spec_l1Mutate (c_ : (List (Int × Int)) × Int) (r_ : (List Int) × Int) : Option (((List Int) × Int) × Int × (List (Int × Int))) :=
  (spec_l1Copy c_).bind fun r1_ =>
  (spec_l17Rd_pick (40:Int) r_).bind fun r2_ =>
  cond (r2_.1 == (0:Int)) (
    (spec_l17Rd_num [(-1:Int), (20001:Int), (9223372036854775807:Int)] r2_.2).bind fun r3_ =>
    some (r3_.2, r3_.1, r1_.2)) (
    cond (r2_.1 == (1:Int)) (
      cond (decide ((0:Int) < (r1_.2.length:Int))) (
        (spec_l17Rd_num [(0:Int), (-1:Int), (1001:Int)] r2_.2).bind fun r5_ =>
        rq (0 ≤ (0:Int) ∧ (0:Int) < r1_.2.length) <|
        some (r5_.2, r1_.1, (r1_.2.set (0:Int).toNat (r5_.1, (r1_.2.getD (0:Int).toNat (0, 0)).2)))) (
        some (r2_.2, r1_.1, r1_.2))) (
      cond (r2_.1 == (2:Int)) (
        cond (decide ((0:Int) < (r1_.2.length:Int))) (
          rq (i64 ((r1_.2.length:Int) - (1:Int))) <|
          (spec_l17Rd_num [(0:Int), (13:Int), (-13:Int), (1:Int), (-9223372036854775808:Int)] r2_.2).bind fun r7_ =>
          rq (0 ≤ ((r1_.2.length:Int) - (1:Int)) ∧ ((r1_.2.length:Int) - (1:Int)) < r1_.2.length) <|
          some (r7_.2, r1_.1, (r1_.2.set ((r1_.2.length:Int) - (1:Int)).toNat ((r1_.2.getD ((r1_.2.length:Int) - (1:Int)).toNat (0, 0)).1, r7_.1)))) (
          some (r2_.2, r1_.1, r1_.2))) (
        cond (r2_.1 == (3:Int)) (
          rq (r1_.2.length + [((1:Int), (1:Int))].length ≤ bound) <|
          some (r2_.2, r1_.1, (r1_.2 ++ [((1:Int), (1:Int))]))) (
          some (r2_.2, r1_.1, r1_.2)))))

/-- spec.l3Mutate -/
noncomputable def spec_l3Mutate (list_ : List ((List (Int × Int)) × Int)) (r_ : (List Int) × Int) : Option (((List Int) × Int) × (List ((List (Int × Int)) × Int))) :=
  rq (([] : List ((List (Int × Int)) × Int)).length + list_.length ≤ bound) <|
  cond (decide ((0:Int) < ((([] : List ((List (Int × Int)) × Int)) ++ list_).length:Int))) (
    (spec_l17Rd_pick (20:Int) r_).bind fun r1_ =>
    cond (r1_.1 == (0:Int)) (
      (spec_l17Rd_pick ((([] : List ((List (Int × Int)) × Int)) ++ list_).length:Int) r1_.2).bind fun r2_ =>
      rq (0 ≤ r2_.1 ∧ r2_.1 < (([] : List ((List (Int × Int)) × Int)) ++ list_).length) <|
      (spec_l1Mutate ((([] : List ((List (Int × Int)) × Int)) ++ list_).getD r2_.1.toNat ([], 0)) r2_.2).bind fun r3_ =>
      (spec_l1Mutate (r3_.2.2, r3_.2.1) r3_.1).bind fun r4_ =>
      (spec_l1Mutate (r4_.2.2, r4_.2.1) r4_.1).bind fun r5_ =>
      rq (0 ≤ r2_.1 ∧ r2_.1 < (([] : List ((List (Int × Int)) × Int)) ++ list_).length) <|
      some (r5_.1, ((([] : List ((List (Int × Int)) × Int)) ++ list_).set r2_.1.toNat (r5_.2.2, r5_.2.1)))) (
      some (r1_.2, (([] : List ((List (Int × Int)) × Int)) ++ list_)))) (
    some (r_, (([] : List ((List (Int × Int)) × Int)) ++ list_)))

/-- spec.DrawSatisfiesAll -/
noncomputable def spec_DrawSatisfiesAll (code : List Int) : Option ((List ((List (Int × Int)) × Int)) × (List Bool)) :=
  (spec_l17Open code).bind fun r1_ =>
  (spec_l3Problem r1_).bind fun r2_ =>
  (spec_l3Mutate r2_.2 r2_.1).bind fun r3_ =>
  (spec_l1Values r3_.1).bind fun r4_ =>
  some (r3_.2, r4_.2)

/-- spec.DrawViolationCount -/
noncomputable def spec_DrawViolationCount (code : List Int) : Option ((List ((List (Int × Int)) × Int)) × (List Bool)) :=
  (spec_DrawSatisfiesAll code).bind fun r1_ =>
  some (r1_.1, r1_.2)

/-- impl.ConstraintValid -/
noncomputable def impl_ConstraintValid_l1 (c_ : (List (Int × Int)) × Int) : Int × Int → Option ((Int × Int) ⊕ Bool) := fun (before, i) =>
  cond (decide (i < (c_.1.length:Int))) (
    rq (0 ≤ i ∧ i < c_.1.length) <|
    (impl_isLiteral (c_.1.getD i.toNat (0, 0)).2).bind fun r1_ =>
    cond (!r1_) (
      some (.inr false)) (
      (impl_variableOf (c_.1.getD i.toNat (0, 0)).2).bind fun r2_ =>
      cond (decide (r2_ ≤ before)) (
        some (.inr false)) (
        (impl_within (c_.1.getD i.toNat (0, 0)).1 (1:Int) (1000:Int)).bind fun r3_ =>
        cond (!r3_) (
          some (.inr false)) (
          (impl_variableOf (c_.1.getD i.toNat (0, 0)).2).bind fun r4_ =>
          rq (i64 (i + (1:Int))) <|
          some (.inl (r4_, (i + (1:Int)))))))) (
    (impl_within c_.2 (0:Int) (20000:Int)).bind fun r5_ =>
    some (.inr r5_))

noncomputable def impl_ConstraintValid (c_ : (List (Int × Int)) × Int) : Option Bool :=
  loop (impl_ConstraintValid_l1 c_) ((0:Int), (0:Int))

/-- impl.allValid$1 -/
noncomputable def impl_allValid_1 (c_ : (List (Int × Int)) × Int) : Option Bool :=
  (impl_ConstraintValid c_).bind fun r1_ =>
  some (!r1_)

/-- slices.IndexFunc[[]impl.Constraint,impl.Constraint] -/
noncomputable def slices_IndexFunc_impl_Constraint__impl_allValid_1_l1 (s_ : List ((List (Int × Int)) × Int)) : Int → Option (Int ⊕ Int) := fun i =>
  cond (decide (i < (s_.length:Int))) (
    rq (0 ≤ i ∧ i < s_.length) <|
    (impl_allValid_1 (s_.getD i.toNat ([], 0))).bind fun r1_ =>
    cond r1_ (
      some (.inr i)) (
      rq (i64 (i + (1:Int))) <|
      some (.inl (i + (1:Int))))) (
    some (.inr (-1:Int)))

noncomputable def slices_IndexFunc_impl_Constraint__impl_allValid_1 (s_ : List ((List (Int × Int)) × Int)) : Option Int :=
  loop (slices_IndexFunc_impl_Constraint__impl_allValid_1_l1 s_) (0:Int)

/-- slices.ContainsFunc[[]impl.Constraint,impl.Constraint] -/
noncomputable def slices_ContainsFunc_impl_Constraint__impl_allValid_1 (s_ : List ((List (Int × Int)) × Int)) : Option Bool :=
  (slices_IndexFunc_impl_Constraint__impl_allValid_1 s_).bind fun r1_ =>
  some (decide ((0:Int) ≤ r1_))

/-- impl.allValid -/
noncomputable def impl_allValid (list_ : List ((List (Int × Int)) × Int)) : Option Bool :=
  (slices_ContainsFunc_impl_Constraint__impl_allValid_1 list_).bind fun r1_ =>
  some (!r1_)

/-- impl.ProblemValid -/
noncomputable def impl_ProblemValid (list_ : List ((List (Int × Int)) × Int)) : Option Bool :=
  cond (decide ((list_.length:Int) ≤ (400:Int))) (
    (impl_allValid list_).bind fun r1_ =>
    some r1_) (
    some false)

/-- (impl.Constraint).holds -/
noncomputable def impl_Constraint_holds_l1 (c_ : (List (Int × Int)) × Int) (values : List Bool) : Int × Int → Option ((Int × Int) ⊕ Bool) := fun (sum, i) =>
  cond (decide (i < (c_.1.length:Int))) (
    rq (0 ≤ i ∧ i < c_.1.length) <|
    (impl_holds (c_.1.getD i.toNat (0, 0)).2 values).bind fun r1_ =>
    cond r1_ (
      rq (i64 (sum + (c_.1.getD i.toNat (0, 0)).1)) <|
      rq (i64 (i + (1:Int))) <|
      some (.inl ((sum + (c_.1.getD i.toNat (0, 0)).1), (i + (1:Int))))) (
      rq (i64 (i + (1:Int))) <|
      some (.inl (sum, (i + (1:Int)))))) (
    some (.inr (decide (c_.2 ≤ sum))))

noncomputable def impl_Constraint_holds (c_ : (List (Int × Int)) × Int) (values : List Bool) : Option Bool :=
  loop (impl_Constraint_holds_l1 c_ values) ((0:Int), (0:Int))

/-- impl.violations -/
noncomputable def impl_violations_l1 (list_ : List ((List (Int × Int)) × Int)) (values : List Bool) : Int × Int → Option ((Int × Int) ⊕ Int) := fun (count, i) =>
  cond (decide (i < (list_.length:Int))) (
    rq (0 ≤ i ∧ i < list_.length) <|
    (impl_Constraint_holds (list_.getD i.toNat ([], 0)) values).bind fun r1_ =>
    cond (!r1_) (
      rq (i64 (count + (1:Int))) <|
      rq (i64 (i + (1:Int))) <|
      some (.inl ((count + (1:Int)), (i + (1:Int))))) (
      rq (i64 (i + (1:Int))) <|
      some (.inl (count, (i + (1:Int)))))) (
    some (.inr count))

noncomputable def impl_violations (list_ : List ((List (Int × Int)) × Int)) (values : List Bool) : Option Int :=
  loop (impl_violations_l1 list_ values) ((0:Int), (0:Int))

/-- impl.ViolationCount -/
noncomputable def impl_ViolationCount (list_ : List ((List (Int × Int)) × Int)) (values : List Bool) : Option (Int × Bool) :=
  (impl_ProblemValid list_).bind fun r1_ =>
  cond (!r1_) (
    some ((0:Int), false)) (
    cond ((values.length:Int) != (12:Int)) (
      some ((0:Int), false)) (
      (impl_violations list_ values).bind fun r2_ =>
      some (r2_, true)))

/-- spec.ConstraintValid -/
noncomputable def spec_ConstraintValid_l1 (c_ : (List (Int × Int)) × Int) : Int → Option (Int ⊕ Bool) := fun i =>
  cond (decide (i < (c_.1.length:Int))) (
    rq (0 ≤ i ∧ i < c_.1.length) <|
    (spec_l1Lit (c_.1.getD i.toNat (0, 0)).2).bind fun r4_ =>
    cond (!r4_) (
      some (.inr false)) (
      cond (decide ((c_.1.getD i.toNat (0, 0)).1 < (1:Int))) (
        some (.inr false)) (
        cond (decide ((1000:Int) < (c_.1.getD i.toNat (0, 0)).1)) (
          some (.inr false)) (
          cond (decide ((0:Int) < i)) (
            rq (i64 (i - (1:Int))) <|
            rq (0 ≤ (i - (1:Int)) ∧ (i - (1:Int)) < c_.1.length) <|
            (spec_l1Abs (c_.1.getD (i - (1:Int)).toNat (0, 0)).2).bind fun r5_ =>
            (spec_l1Abs (c_.1.getD i.toNat (0, 0)).2).bind fun r6_ =>
            cond (decide (r6_ ≤ r5_)) (
              some (.inr false)) (
              rq (i64 (i + (1:Int))) <|
              some (.inl (i + (1:Int))))) (
            rq (i64 (i + (1:Int))) <|
            some (.inl (i + (1:Int)))))))) (
    cond (decide ((0:Int) ≤ c_.2)) (
      some (.inr (decide (c_.2 ≤ (20000:Int))))) (
      some (.inr false)))

noncomputable def spec_ConstraintValid (c_ : (List (Int × Int)) × Int) : Option Bool :=
  loop (spec_ConstraintValid_l1 c_) (0:Int)

/-- spec.ProblemValid -/
noncomputable def spec_ProblemValid_l1 (list_ : List ((List (Int × Int)) × Int)) : Int → Option (Int ⊕ Bool) := fun i =>
  cond (decide (i < (list_.length:Int))) (
    rq (0 ≤ i ∧ i < list_.length) <|
    (spec_ConstraintValid (list_.getD i.toNat ([], 0))).bind fun r1_ =>
    cond (!r1_) (
      some (.inr false)) (
      rq (i64 (i + (1:Int))) <|
      some (.inl (i + (1:Int))))) (
    some (.inr (decide ((list_.length:Int) ≤ (400:Int)))))

noncomputable def spec_ProblemValid (list_ : List ((List (Int × Int)) × Int)) : Option Bool :=
  loop (spec_ProblemValid_l1 list_) (0:Int)

/-- spec.l1Eval -/
noncomputable def spec_l1Eval_l1 (c_ : (List (Int × Int)) × Int) (values : List Bool) : Int × Int → Option ((Int × Int) ⊕ Bool) := fun (n, i) =>
  cond (decide (i < (c_.1.length:Int))) (
    rq (0 ≤ i ∧ i < c_.1.length) <|
    (spec_l1True values (c_.1.getD i.toNat (0, 0)).2).bind fun r1_ =>
    cond r1_ (
      rq (0 ≤ i ∧ i < c_.1.length) <|
      rq (i64 (n + (c_.1.getD i.toNat (0, 0)).1)) <|
      rq (i64 (i + (1:Int))) <|
      some (.inl ((n + (c_.1.getD i.toNat (0, 0)).1), (i + (1:Int))))) (
      rq (i64 (i + (1:Int))) <|
      some (.inl (n, (i + (1:Int)))))) (
    some (.inr (decide (c_.2 ≤ n))))

noncomputable def spec_l1Eval (c_ : (List (Int × Int)) × Int) (values : List Bool) : Option Bool :=
  loop (spec_l1Eval_l1 c_ values) ((0:Int), (0:Int))

/-- spec.l11Bad -/
noncomputable def spec_l11Bad_l1 (list_ : List ((List (Int × Int)) × Int)) (values : List Bool) : Int × Int → Option ((Int × Int) ⊕ Int) := fun (n, i) =>
  cond (decide (i < (list_.length:Int))) (
    rq (0 ≤ i ∧ i < list_.length) <|
    (spec_l1Eval (list_.getD i.toNat ([], 0)) values).bind fun r1_ =>
    cond (!r1_) (
      rq (i64 (n + (1:Int))) <|
      rq (i64 (i + (1:Int))) <|
      some (.inl ((n + (1:Int)), (i + (1:Int))))) (
      rq (i64 (i + (1:Int))) <|
      some (.inl (n, (i + (1:Int)))))) (
    some (.inr n))

noncomputable def spec_l11Bad (list_ : List ((List (Int × Int)) × Int)) (values : List Bool) : Option Int :=
  loop (spec_l11Bad_l1 list_ values) ((0:Int), (0:Int))

/-- spec.ViolationCount -/
noncomputable def spec_ViolationCount (list_ : List ((List (Int × Int)) × Int)) (values : List Bool) : Option (Int × Bool) :=
  (spec_ProblemValid list_).bind fun r1_ =>
  cond (!r1_) (
    some ((0:Int), false)) (
    cond ((values.length:Int) != (12:Int)) (
      some ((0:Int), false)) (
      (spec_l11Bad list_ values).bind fun r2_ =>
      some (r2_, true)))

/-- impl.satisfies$1 -/
noncomputable def impl_satisfies_1 (c_ : (List (Int × Int)) × Int) (o0 : List Bool) : Option Bool :=
  (impl_Constraint_holds c_ o0).bind fun r1_ =>
  some (!r1_)

/-- slices.IndexFunc[[]impl.Constraint,impl.Constraint] -/
noncomputable def slices_IndexFunc_impl_Constraint__impl_satisfies_1_l1 (s_ : List ((List (Int × Int)) × Int)) (o0 : List Bool) : Int → Option (Int ⊕ Int) := fun i =>
  cond (decide (i < (s_.length:Int))) (
    rq (0 ≤ i ∧ i < s_.length) <|
    (impl_satisfies_1 (s_.getD i.toNat ([], 0)) o0).bind fun r1_ =>
    cond r1_ (
      some (.inr i)) (
      rq (i64 (i + (1:Int))) <|
      some (.inl (i + (1:Int))))) (
    some (.inr (-1:Int)))

noncomputable def slices_IndexFunc_impl_Constraint__impl_satisfies_1 (s_ : List ((List (Int × Int)) × Int)) (o0 : List Bool) : Option Int :=
  loop (slices_IndexFunc_impl_Constraint__impl_satisfies_1_l1 s_ o0) (0:Int)

/-- slices.ContainsFunc[[]impl.Constraint,impl.Constraint] -/
noncomputable def slices_ContainsFunc_impl_Constraint__impl_satisfies_1 (s_ : List ((List (Int × Int)) × Int)) (o0 : List Bool) : Option Bool :=
  (slices_IndexFunc_impl_Constraint__impl_satisfies_1 s_ o0).bind fun r1_ =>
  some (decide ((0:Int) ≤ r1_))

/-- impl.satisfies -/
noncomputable def impl_satisfies (list_ : List ((List (Int × Int)) × Int)) (values : List Bool) : Option Bool :=
  (slices_ContainsFunc_impl_Constraint__impl_satisfies_1 list_ values).bind fun r1_ =>
  some (!r1_)

/-- impl.SatisfiesAll -/
noncomputable def impl_SatisfiesAll (list_ : List ((List (Int × Int)) × Int)) (values : List Bool) : Option Bool :=
  (impl_ProblemValid list_).bind fun r1_ =>
  cond r1_ (
    cond ((values.length:Int) == (12:Int)) (
      (impl_satisfies list_ values).bind fun r2_ =>
      some r2_) (
      some false)) (
    some false)

/-- laws.FnViolationCount -/
noncomputable def laws_FnViolationCount (a0 : List Int) (a1 : List Int) : Option Bool :=
  cond (decide ((1048576:Int) < (a0.length:Int))) (
    some true) (
    cond (decide ((1048576:Int) < (a1.length:Int))) (
      some true) (
      (spec_DrawViolationCount a0).bind fun r1_ =>
      (impl_ViolationCount r1_.1 r1_.2).bind fun r2_ =>
      (spec_ViolationCount r1_.1 r1_.2).bind fun r3_ =>
      cond (r2_.2 != r3_.2) (
        cond (r2_.2 == r3_.2) (
          some (r2_.1 == r3_.1)) (
          some false)) (
        cond (r2_.1 != r3_.1) (
          cond (r2_.2 == r3_.2) (
            some (r2_.1 == r3_.1)) (
            some false)) (
          cond (!r2_.2) (
            cond (r2_.2 == r3_.2) (
              some (r2_.1 == r3_.1)) (
              some false)) (
            rq (i64 ((r1_.1.length:Int) + (1:Int))) <|
            rq (1 ≤ ((r1_.1.length:Int) + (1:Int)) ∧ 0 ≤ (a1.length:Int)) <|
            rq (0 ≤ ((a1.length:Int) % ((r1_.1.length:Int) + (1:Int))) ∧ ((a1.length:Int) % ((r1_.1.length:Int) + (1:Int))) ≤ r1_.1.length) <|
            (impl_ViolationCount (r1_.1.take ((a1.length:Int) % ((r1_.1.length:Int) + (1:Int))).toNat) r1_.2).bind fun r4_ =>
            rq (0 ≤ ((a1.length:Int) % ((r1_.1.length:Int) + (1:Int))) ∧ ((a1.length:Int) % ((r1_.1.length:Int) + (1:Int))) ≤ r1_.1.length) <|
            (impl_ViolationCount (r1_.1.drop ((a1.length:Int) % ((r1_.1.length:Int) + (1:Int))).toNat) r1_.2).bind fun r5_ =>
            cond r4_.2 (
              cond r5_.2 (
                rq (i64 (r4_.1 + r5_.1)) <|
                cond (r2_.1 == (r4_.1 + r5_.1)) (
                  (impl_SatisfiesAll r1_.1 r1_.2).bind fun r6_ =>
                  some (r6_ == (r2_.1 == (0:Int)))) (
                  some false)) (
                some false)) (
              some false))))))

/-- laws.szTermS -/
noncomputable def laws_szTermS (a : List (Int × Int)) (left : Int) : Option Int :=
  rq (i64 (left - (a.length:Int))) <|
  cond (decide ((left - (a.length:Int)) < (0:Int))) (
    some (-1:Int)) (
    some (left - (a.length:Int)))

/-- laws.szConstraint -/
noncomputable def laws_szConstraint (a : (List (Int × Int)) × Int) (left : Int) : Option Int :=
  (laws_szTermS a.1 left).bind fun r1_ =>
  cond (decide (r1_ < (0:Int))) (
    some (-1:Int)) (
    some r1_)

/-- laws.szConstraintS -/
noncomputable def laws_szConstraintS_l1 (a : List ((List (Int × Int)) × Int)) : Int × Int → Option ((Int × Int) ⊕ Int) := fun (left1, i) =>
  cond (decide (i < (a.length:Int))) (
    rq (0 ≤ i ∧ i < a.length) <|
    (laws_szConstraint (a.getD i.toNat ([], 0)) left1).bind fun r1_ =>
    cond (decide (r1_ < (0:Int))) (
      some (.inr (-1:Int))) (
      rq (i64 (i + (1:Int))) <|
      some (.inl (r1_, (i + (1:Int)))))) (
    some (.inr left1))

noncomputable def laws_szConstraintS (a : List ((List (Int × Int)) × Int)) (left : Int) : Option Int :=
  rq (i64 (left - (a.length:Int))) <|
  cond (decide ((left - (a.length:Int)) < (0:Int))) (
    some (-1:Int)) (
    loop (laws_szConstraintS_l1 a) ((left - (a.length:Int)), (0:Int)))

/-- laws.toTerm -/
noncomputable def laws_toTerm (a : Int × Int) : Option ((Int × Int)) :=
  some a

/-- laws.toTermS -/
noncomputable def laws_toTermS_l1 (a : List (Int × Int)) : Int × (List (Int × Int)) → Option ((Int × (List (Int × Int))) ⊕ ((List (Int × Int)))) := fun (i, out) =>
  cond (decide (i < (a.length:Int))) (
    rq (0 ≤ i ∧ i < a.length) <|
    (laws_toTerm (a.getD i.toNat (0, 0))).bind fun r2_ =>
    rq (0 ≤ i ∧ i < out.length) <|
    rq (i64 (i + (1:Int))) <|
    some (.inl ((i + (1:Int)), (out.set i.toNat r2_)))) (
    some (.inr out))

noncomputable def laws_toTermS (a : List (Int × Int)) : Option ((List (Int × Int))) :=
  rq (0 ≤ (a.length:Int) ∧ (a.length:Int) ≤ bound ∧ (a.length:Int) = (a.length:Int)) <|
  loop (laws_toTermS_l1 a) ((0:Int), (List.replicate (a.length:Int).toNat (0, 0)))

/-- laws.toConstraint -/
noncomputable def laws_toConstraint (a : (List (Int × Int)) × Int) : Option (Int × (List (Int × Int))) :=
  (laws_toTermS a.1).bind fun r1_ =>
  some (a.2, r1_)

/-- laws.toConstraintS -/
noncomputable def laws_toConstraintS_l1 (a : List ((List (Int × Int)) × Int)) : Int × (List ((List (Int × Int)) × Int)) → Option ((Int × (List ((List (Int × Int)) × Int))) ⊕ ((List ((List (Int × Int)) × Int)))) := fun (i, out) =>
  cond (decide (i < (a.length:Int))) (
    rq (0 ≤ i ∧ i < a.length) <|
    (laws_toConstraint (a.getD i.toNat ([], 0))).bind fun r2_ =>
    rq (0 ≤ i ∧ i < out.length) <|
    rq (i64 (i + (1:Int))) <|
    some (.inl ((i + (1:Int)), (out.set i.toNat (r2_.2, r2_.1))))) (
    some (.inr out))

noncomputable def laws_toConstraintS (a : List ((List (Int × Int)) × Int)) : Option ((List ((List (Int × Int)) × Int))) :=
  rq (0 ≤ (a.length:Int) ∧ (a.length:Int) ≤ bound ∧ (a.length:Int) = (a.length:Int)) <|
  loop (laws_toConstraintS_l1 a) ((0:Int), (List.replicate (a.length:Int).toNat ([], 0)))

/-- laws.eqTerm -/
noncomputable def laws_eqTerm (a : Int × Int) (b : Int × Int) : Option Bool :=
  cond (a.1 != b.1) (
    some false) (
    cond (a.2 != b.2) (
      some false) (
      some true))

/-- laws.eqTermS -/
noncomputable def laws_eqTermS_l1 (a : List (Int × Int)) (b : List (Int × Int)) : Int → Option (Int ⊕ Bool) := fun i =>
  cond (decide (i < (a.length:Int))) (
    rq (0 ≤ i ∧ i < a.length) <|
    rq (0 ≤ i ∧ i < b.length) <|
    (laws_eqTerm (a.getD i.toNat (0, 0)) (b.getD i.toNat (0, 0))).bind fun r2_ =>
    cond (!r2_) (
      some (.inr false)) (
      rq (i64 (i + (1:Int))) <|
      some (.inl (i + (1:Int))))) (
    some (.inr true))

noncomputable def laws_eqTermS (a : List (Int × Int)) (b : List (Int × Int)) : Option Bool :=
  cond ((a.length:Int) != (b.length:Int)) (
    some false) (
    loop (laws_eqTermS_l1 a b) (0:Int))

/-- laws.eqConstraint -/
noncomputable def laws_eqConstraint (a : (List (Int × Int)) × Int) (b : (List (Int × Int)) × Int) : Option Bool :=
  (laws_eqTermS a.1 b.1).bind fun r1_ =>
  cond (!r1_) (
    some false) (
    cond (a.2 != b.2) (
      some false) (
      some true))

/-- laws.eqConstraintS -/
noncomputable def laws_eqConstraintS_l1 (a : List ((List (Int × Int)) × Int)) (b : List ((List (Int × Int)) × Int)) : Int → Option (Int ⊕ Bool) := fun i =>
  cond (decide (i < (a.length:Int))) (
    rq (0 ≤ i ∧ i < a.length) <|
    rq (0 ≤ i ∧ i < b.length) <|
    (laws_eqConstraint (a.getD i.toNat ([], 0)) (b.getD i.toNat ([], 0))).bind fun r2_ =>
    cond (!r2_) (
      some (.inr false)) (
      rq (i64 (i + (1:Int))) <|
      some (.inl (i + (1:Int))))) (
    some (.inr true))

noncomputable def laws_eqConstraintS (a : List ((List (Int × Int)) × Int)) (b : List ((List (Int × Int)) × Int)) : Option Bool :=
  cond ((a.length:Int) != (b.length:Int)) (
    some false) (
    loop (laws_eqConstraintS_l1 a b) (0:Int))

/-- laws.FnExactViolationCount -/
noncomputable def laws_FnExactViolationCount (aList : List ((List (Int × Int)) × Int)) (aValues : List Bool) : Option Bool :=
  cond (decide ((1048576:Int) < (aValues.length:Int))) (
    some true) (
    (laws_szConstraintS aList (1048576:Int)).bind fun r1_ =>
    cond (decide (r1_ < (0:Int))) (
      some true) (
      (laws_toConstraintS aList).bind fun r2_ =>
      (laws_toBoolS aValues).bind fun r3_ =>
      (spec_ViolationCount r2_ r3_).bind fun r4_ =>
      (laws_toConstraintS aList).bind fun r5_ =>
      (laws_toBoolS aValues).bind fun r6_ =>
      (impl_ViolationCount r5_ r6_).bind fun r7_ =>
      cond (r7_.1 != r4_.1) (
        some false) (
        cond (r7_.2 != r4_.2) (
          some false) (
          (laws_toConstraintS aList).bind fun r8_ =>
          (laws_eqConstraintS r5_ r8_).bind fun r9_ =>
          cond (!r9_) (
            some false) (
            (laws_toBoolS aValues).bind fun r10_ =>
            (laws_eqBoolS r6_ r10_).bind fun r11_ =>
            cond (!r11_) (
              some false) (
              some true))))))

/-- spec.l11Keep -/
noncomputable def spec_l11Keep_l1 (keep : List Int) (n : Int) : Int → Option (Int ⊕ Bool) := fun i =>
  cond (decide (i < (keep.length:Int))) (
    rq (0 ≤ i ∧ i < keep.length) <|
    cond (decide ((keep.getD i.toNat 0) < (0:Int))) (
      some (.inr false)) (
      rq (0 ≤ i ∧ i < keep.length) <|
      cond (decide (n ≤ (keep.getD i.toNat 0))) (
        some (.inr false)) (
        cond (decide ((0:Int) < i)) (
          rq (i64 (i - (1:Int))) <|
          rq (0 ≤ (i - (1:Int)) ∧ (i - (1:Int)) < keep.length) <|
          rq (0 ≤ i ∧ i < keep.length) <|
          cond (decide ((keep.getD i.toNat 0) ≤ (keep.getD (i - (1:Int)).toNat 0))) (
            some (.inr false)) (
            rq (i64 (i + (1:Int))) <|
            some (.inl (i + (1:Int))))) (
          rq (i64 (i + (1:Int))) <|
          some (.inl (i + (1:Int))))))) (
    some (.inr true))

noncomputable def spec_l11Keep (keep : List Int) (n : Int) : Option Bool :=
  loop (spec_l11Keep_l1 keep n) (0:Int)

/-- spec.l11Sub -/
noncomputable def spec_l11Sub_l1 (list_ : List ((List (Int × Int)) × Int)) (keep : List Int) : Int × (List ((List (Int × Int)) × Int)) → Option ((Int × (List ((List (Int × Int)) × Int))) ⊕ ((List ((List (Int × Int)) × Int)))) := fun (i, out) =>
  cond (decide (i < (keep.length:Int))) (
    rq (0 ≤ i ∧ i < keep.length) <|
    rq (0 ≤ (keep.getD i.toNat 0) ∧ (keep.getD i.toNat 0) < list_.length) <|
    (spec_l1Copy (list_.getD (keep.getD i.toNat 0).toNat ([], 0))).bind fun r2_ =>
    rq (out.length + [(r2_.2, r2_.1)].length ≤ bound) <|
    rq (i64 (i + (1:Int))) <|
    some (.inl ((i + (1:Int)), (out ++ [(r2_.2, r2_.1)])))) (
    some (.inr out))

noncomputable def spec_l11Sub (list_ : List ((List (Int × Int)) × Int)) (keep : List Int) : Option ((List ((List (Int × Int)) × Int))) :=
  loop (spec_l11Sub_l1 list_ keep) ((0:Int), ([] : List ((List (Int × Int)) × Int)))

/-- spec.SubProblem -/
noncomputable def spec_SubProblem (list_ : List ((List (Int × Int)) × Int)) (keep : List Int) : Option (Bool × (List ((List (Int × Int)) × Int))) :=
  (spec_ProblemValid list_).bind fun r1_ =>
  cond (!r1_) (
    some (false, ([] : List ((List (Int × Int)) × Int)))) (
    (spec_l11Keep keep (list_.length:Int)).bind fun r2_ =>
    cond (!r2_) (
      some (false, ([] : List ((List (Int × Int)) × Int)))) (
      (spec_l11Sub list_ keep).bind fun r3_ =>
      some (true, r3_)))

/-- impl.isPart -/
noncomputable def impl_isPart_l1 (keep : List Int) (count : Int) : Int → Option (Int ⊕ Bool) := fun i =>
  cond (decide (i < (keep.length:Int))) (
    rq (0 ≤ i ∧ i < keep.length) <|
    rq (i64 (count - (1:Int))) <|
    (impl_within (keep.getD i.toNat 0) (0:Int) (count - (1:Int))).bind fun r1_ =>
    cond (!r1_) (
      some (.inr false)) (
      cond (decide ((0:Int) < i)) (
        rq (i64 (i - (1:Int))) <|
        rq (0 ≤ (i - (1:Int)) ∧ (i - (1:Int)) < keep.length) <|
        cond (decide ((keep.getD i.toNat 0) ≤ (keep.getD (i - (1:Int)).toNat 0))) (
          some (.inr false)) (
          rq (i64 (i + (1:Int))) <|
          some (.inl (i + (1:Int))))) (
        rq (i64 (i + (1:Int))) <|
        some (.inl (i + (1:Int)))))) (
    some (.inr true))

noncomputable def impl_isPart (keep : List Int) (count : Int) : Option Bool :=
  loop (impl_isPart_l1 keep count) (0:Int)

/-- impl.partOf -/
noncomputable def impl_partOf_l1 (list_ : List ((List (Int × Int)) × Int)) (keep : List Int) : Int × (List ((List (Int × Int)) × Int)) → Option ((Int × (List ((List (Int × Int)) × Int))) ⊕ ((List ((List (Int × Int)) × Int)))) := fun (i, out) =>
  cond (decide (i < (keep.length:Int))) (
    rq (0 ≤ i ∧ i < keep.length) <|
    rq (0 ≤ (keep.getD i.toNat 0) ∧ (keep.getD i.toNat 0) < list_.length) <|
    rq (out.length + [(list_.getD (keep.getD i.toNat 0).toNat ([], 0))].length ≤ bound) <|
    rq (i64 (i + (1:Int))) <|
    some (.inl ((i + (1:Int)), (out ++ [(list_.getD (keep.getD i.toNat 0).toNat ([], 0))])))) (
    some (.inr out))

noncomputable def impl_partOf (list_ : List ((List (Int × Int)) × Int)) (keep : List Int) : Option ((List ((List (Int × Int)) × Int))) :=
  loop (impl_partOf_l1 list_ keep) ((0:Int), ([] : List ((List (Int × Int)) × Int)))

/-- slices.Clone[[]impl.Term,impl.Term] -/
noncomputable def slices_Clone_impl_Term (s_ : List (Int × Int)) : Option ((List (Int × Int))) :=
  nt (s_ = []) (
    some ([] : List (Int × Int))) (
    rq (([] : List (Int × Int)).length + s_.length ≤ bound) <|
    some (([] : List (Int × Int)) ++ s_))

/-- (impl.Constraint).own -/
noncomputable def impl_Constraint_own (c_ : (List (Int × Int)) × Int) : Option (Int × (List (Int × Int))) :=
  (slices_Clone_impl_Term c_.1).bind fun r1_ =>
  some (c_.2, r1_)

/-- impl.ownAll -/
noncomputable def impl_ownAll_l1 (list_ : List ((List (Int × Int)) × Int)) : Int × (List ((List (Int × Int)) × Int)) → Option ((Int × (List ((List (Int × Int)) × Int))) ⊕ ((List ((List (Int × Int)) × Int)))) := fun (i, out) =>
  cond (decide (i < (list_.length:Int))) (
    rq (0 ≤ i ∧ i < list_.length) <|
    (impl_Constraint_own (list_.getD i.toNat ([], 0))).bind fun r2_ =>
    rq (out.length + [(r2_.2, r2_.1)].length ≤ bound) <|
    rq (i64 (i + (1:Int))) <|
    some (.inl ((i + (1:Int)), (out ++ [(r2_.2, r2_.1)])))) (
    some (.inr out))

noncomputable def impl_ownAll (list_ : List ((List (Int × Int)) × Int)) : Option ((List ((List (Int × Int)) × Int))) :=
  loop (impl_ownAll_l1 list_) ((0:Int), ([] : List ((List (Int × Int)) × Int)))

/-- impl.SubProblem -/
noncomputable def impl_SubProblem (list_ : List ((List (Int × Int)) × Int)) (keep : List Int) : Option (Bool × (List ((List (Int × Int)) × Int))) :=
  (impl_ProblemValid list_).bind fun r1_ =>
  cond (!r1_) (
    some (false, ([] : List ((List (Int × Int)) × Int)))) (
    (impl_isPart keep (list_.length:Int)).bind fun r2_ =>
    cond (!r2_) (
      some (false, ([] : List ((List (Int × Int)) × Int)))) (
      (impl_partOf list_ keep).bind fun r3_ =>
      (impl_ownAll r3_).bind fun r4_ =>
      some (true, r4_)))

/-- laws.markTermS -/
noncomputable def laws_markTermS_l1 : Int × Int × (List (Int × Int)) → Option ((Int × Int × (List (Int × Int))) ⊕ (Int × (List (Int × Int)))) := fun (k_1, i, a1) =>
  cond (decide (i < (a1.length:Int))) (
    rq (0 ≤ i ∧ i < a1.length) <|
    rq (i64 (k_1 + (1:Int))) <|
    rq (0 ≤ i ∧ i < (a1.set i.toNat (k_1, (a1.getD i.toNat (0, 0)).2)).length) <|
    rq (i64 ((k_1 + (1:Int)) + (1:Int))) <|
    rq (i64 (i + (1:Int))) <|
    some (.inl (((k_1 + (1:Int)) + (1:Int)), (i + (1:Int)), ((a1.set i.toNat (k_1, (a1.getD i.toNat (0, 0)).2)).set i.toNat (((a1.set i.toNat (k_1, (a1.getD i.toNat (0, 0)).2)).getD i.toNat (0, 0)).1, (k_1 + (1:Int))))))) (
    some (.inr (k_1, a1)))

noncomputable def laws_markTermS (k_ : Int) (a : List (Int × Int)) : Option (Int × (List (Int × Int))) :=
  loop (laws_markTermS_l1) (k_, (0:Int), a)

/-- laws.markConstraintS -/
noncomputable def laws_markConstraintS_l1 : Int × Int × (List ((List (Int × Int)) × Int)) → Option ((Int × Int × (List ((List (Int × Int)) × Int))) ⊕ (Int × (List ((List (Int × Int)) × Int)))) := fun (k_1, i, a1) =>
  cond (decide (i < (a1.length:Int))) (
    rq (0 ≤ i ∧ i < a1.length) <|
    (laws_markTermS k_1 (a1.getD i.toNat ([], 0)).1).bind fun r2_ =>
    rq (0 ≤ i ∧ i < a1.length) <|
    rq (i64 (r2_.1 + (1:Int))) <|
    rq (i64 (i + (1:Int))) <|
    some (.inl ((r2_.1 + (1:Int)), (i + (1:Int)), ((a1.set i.toNat ((a1.getD i.toNat ([], 0)).1, r2_.1)).set i.toNat (r2_.2, ((a1.set i.toNat ((a1.getD i.toNat ([], 0)).1, r2_.1)).getD i.toNat ([], 0)).2))))) (
    some (.inr (k_1, a1)))

noncomputable def laws_markConstraintS (k_ : Int) (a : List ((List (Int × Int)) × Int)) : Option (Int × (List ((List (Int × Int)) × Int))) :=
  loop (laws_markConstraintS_l1) (k_, (0:Int), a)

/-- laws.heldTermS -/
noncomputable def laws_heldTermS_l1 (a : List (Int × Int)) : Int × Int → Option ((Int × Int) ⊕ Int) := fun (k_1, i) =>
  cond (decide (i < (a.length:Int))) (
    rq (0 ≤ i ∧ i < a.length) <|
    cond ((a.getD i.toNat (0, 0)).1 != k_1) (
      some (.inr (-1:Int))) (
      rq (i64 (k_1 + (1:Int))) <|
      rq (0 ≤ i ∧ i < a.length) <|
      cond ((a.getD i.toNat (0, 0)).2 != (k_1 + (1:Int))) (
        some (.inr (-1:Int))) (
        rq (i64 ((k_1 + (1:Int)) + (1:Int))) <|
        rq (i64 (i + (1:Int))) <|
        some (.inl (((k_1 + (1:Int)) + (1:Int)), (i + (1:Int))))))) (
    some (.inr k_1))

noncomputable def laws_heldTermS (a : List (Int × Int)) (k_ : Int) : Option Int :=
  loop (laws_heldTermS_l1 a) (k_, (0:Int))

/-- laws.heldConstraintS -/
noncomputable def laws_heldConstraintS_l1 (a : List ((List (Int × Int)) × Int)) : Int × Int → Option ((Int × Int) ⊕ Int) := fun (k_1, i) =>
  cond (decide (i < (a.length:Int))) (
    rq (0 ≤ i ∧ i < a.length) <|
    (laws_heldTermS (a.getD i.toNat ([], 0)).1 k_1).bind fun r1_ =>
    cond (decide (r1_ < (0:Int))) (
      some (.inr (-1:Int))) (
      rq (0 ≤ i ∧ i < a.length) <|
      cond ((a.getD i.toNat ([], 0)).2 != r1_) (
        some (.inr (-1:Int))) (
        rq (i64 (r1_ + (1:Int))) <|
        rq (i64 (i + (1:Int))) <|
        some (.inl ((r1_ + (1:Int)), (i + (1:Int))))))) (
    some (.inr k_1))

noncomputable def laws_heldConstraintS (a : List ((List (Int × Int)) × Int)) (k_ : Int) : Option Int :=
  loop (laws_heldConstraintS_l1 a) (k_, (0:Int))

/-- laws.FnExactSubProblem -/
noncomputable def laws_FnExactSubProblem (a0 : List ((List (Int × Int)) × Int)) (a1 : List Int) : Option Bool :=
  cond (decide ((1048576:Int) < (a1.length:Int))) (
    some true) (
    (laws_szConstraintS a0 (1048576:Int)).bind fun r1_ =>
    cond (decide (r1_ < (0:Int))) (
      some true) (
      (laws_toConstraintS a0).bind fun r2_ =>
      (laws_toIntS a1).bind fun r3_ =>
      (spec_SubProblem r2_ r3_).bind fun r4_ =>
      (laws_toConstraintS a0).bind fun r5_ =>
      (laws_toIntS a1).bind fun r6_ =>
      (impl_SubProblem r5_ r6_).bind fun r7_ =>
      (laws_eqConstraintS r7_.2 r4_.2).bind fun r8_ =>
      cond (!r8_) (
        some false) (
        cond (r7_.1 != r4_.1) (
          some false) (
          (laws_toConstraintS a0).bind fun r9_ =>
          (laws_eqConstraintS r5_ r9_).bind fun r10_ =>
          cond (!r10_) (
            some false) (
            (laws_toIntS a1).bind fun r11_ =>
            (laws_eqIntS r6_ r11_).bind fun r12_ =>
            cond (!r12_) (
              some false) (
              (laws_markConstraintS (1:Int) r5_).bind fun r13_ =>
              (laws_markIntS r13_.1 r6_).bind fun r14_ =>
              cond (decide (r14_.1 < (0:Int))) (
                some false) (
                (laws_eqConstraintS r7_.2 r4_.2).bind fun r15_ =>
                cond (!r15_) (
                  some false) (
                  cond (r7_.1 != r4_.1) (
                    some false) (
                    (laws_markConstraintS (1:Int) r7_.2).bind fun r16_ =>
                    (laws_heldConstraintS r16_.2 (1:Int)).bind fun r17_ =>
                    cond (decide (r17_ < (0:Int))) (
                      some false) (
                      cond (r17_ != r16_.1) (
                        some false) (
                        (laws_toConstraintS a0).bind fun r18_ =>
                        (laws_toIntS a1).bind fun r19_ =>
                        (impl_SubProblem r18_ r19_).bind fun r20_ =>
                        (laws_eqConstraintS r20_.2 r4_.2).bind fun r21_ =>
                        cond (!r21_) (
                          some false) (
                          cond (r20_.1 != r4_.1) (
                            some false) (
                            (laws_heldConstraintS r16_.2 (1:Int)).bind fun r22_ =>
                            cond (decide (r22_ < (0:Int))) (
                              some false) (
                              cond (r22_ != r16_.1) (
                                some false) (
                                some true)))))))))))))))

/-- spec.l12Under -/
noncomputable def spec_l12Under_l1 (cube : List Int) : Int × (List ((List (Int × Int)) × Int)) → Option ((Int × (List ((List (Int × Int)) × Int))) ⊕ ((List ((List (Int × Int)) × Int)))) := fun (i1, out2) =>
  cond (decide (i1 < (cube.length:Int))) (
    rq (0 ≤ i1 ∧ i1 < cube.length) <|
    rq (out2.length + [([((1:Int), (cube.getD i1.toNat 0))], (1:Int))].length ≤ bound) <|
    rq (i64 (i1 + (1:Int))) <|
    some (.inl ((i1 + (1:Int)), (out2 ++ [([((1:Int), (cube.getD i1.toNat 0))], (1:Int))])))) (
    some (.inr out2))

noncomputable def spec_l12Under_j1 (cube : List Int) : (List ((List (Int × Int)) × Int)) → Option ((List ((List (Int × Int)) × Int))) := fun out1 =>
  loop (spec_l12Under_l1 cube) ((0:Int), out1)

noncomputable def spec_l12Under_l2 (list_ : List ((List (Int × Int)) × Int)) (cube : List Int) : Int × (List ((List (Int × Int)) × Int)) → Option ((Int × (List ((List (Int × Int)) × Int))) ⊕ ((List ((List (Int × Int)) × Int)))) := fun (i, out) =>
  cond (decide (i < (list_.length:Int))) (
    rq (0 ≤ i ∧ i < list_.length) <|
    (spec_l1Copy (list_.getD i.toNat ([], 0))).bind fun r2_ =>
    rq (out.length + [(r2_.2, r2_.1)].length ≤ bound) <|
    rq (i64 (i + (1:Int))) <|
    some (.inl ((i + (1:Int)), (out ++ [(r2_.2, r2_.1)])))) (
    up (spec_l12Under_j1 cube out))

noncomputable def spec_l12Under (list_ : List ((List (Int × Int)) × Int)) (cube : List Int) : Option ((List ((List (Int × Int)) × Int))) :=
  loop (spec_l12Under_l2 list_ cube) ((0:Int), ([] : List ((List (Int × Int)) × Int)))

/-- spec.CubeProblem -/
noncomputable def spec_CubeProblem (list_ : List ((List (Int × Int)) × Int)) (cube : List Int) : Option (Bool × (List ((List (Int × Int)) × Int))) :=
  (spec_ProblemValid list_).bind fun r1_ =>
  cond (!r1_) (
    some (false, ([] : List ((List (Int × Int)) × Int)))) (
    (spec_l12Cube cube).bind fun r2_ =>
    cond (!r2_) (
      some (false, ([] : List ((List (Int × Int)) × Int)))) (
      rq (i64 ((list_.length:Int) + (cube.length:Int))) <|
      cond (decide ((400:Int) < ((list_.length:Int) + (cube.length:Int)))) (
        some (false, ([] : List ((List (Int × Int)) × Int)))) (
        (spec_l12Under list_ cube).bind fun r3_ =>
        some (true, r3_))))

/-- impl.CubeProblem -/
noncomputable def impl_CubeProblem_l1 (cube : List Int) : Int × (List ((List (Int × Int)) × Int)) → Option ((Int × (List ((List (Int × Int)) × Int))) ⊕ (Bool × (List ((List (Int × Int)) × Int)))) := fun (i, out) =>
  cond (decide (i < (cube.length:Int))) (
    rq (0 ≤ i ∧ i < cube.length) <|
    rq (out.length + [([((1:Int), (cube.getD i.toNat 0))], (1:Int))].length ≤ bound) <|
    rq (i64 (i + (1:Int))) <|
    some (.inl ((i + (1:Int)), (out ++ [([((1:Int), (cube.getD i.toNat 0))], (1:Int))])))) (
    some (.inr (true, out)))

noncomputable def impl_CubeProblem (list_ : List ((List (Int × Int)) × Int)) (cube : List Int) : Option (Bool × (List ((List (Int × Int)) × Int))) :=
  (impl_ProblemValid list_).bind fun r1_ =>
  cond (!r1_) (
    some (false, ([] : List ((List (Int × Int)) × Int)))) (
    (impl_isCube cube).bind fun r2_ =>
    cond (!r2_) (
      some (false, ([] : List ((List (Int × Int)) × Int)))) (
      rq (i64 ((list_.length:Int) + (cube.length:Int))) <|
      cond (decide ((400:Int) < ((list_.length:Int) + (cube.length:Int)))) (
        some (false, ([] : List ((List (Int × Int)) × Int)))) (
        (impl_ownAll list_).bind fun r3_ =>
        loop (impl_CubeProblem_l1 cube) ((0:Int), r3_))))

/-- laws.FnExactCubeProblem -/
noncomputable def laws_FnExactCubeProblem (a0 : List ((List (Int × Int)) × Int)) (a1 : List Int) : Option Bool :=
  cond (decide ((1048576:Int) < (a1.length:Int))) (
    some true) (
    (laws_szConstraintS a0 (1048576:Int)).bind fun r1_ =>
    cond (decide (r1_ < (0:Int))) (
      some true) (
      (laws_toConstraintS a0).bind fun r2_ =>
      (laws_toIntS a1).bind fun r3_ =>
      (spec_CubeProblem r2_ r3_).bind fun r4_ =>
      (laws_toConstraintS a0).bind fun r5_ =>
      (laws_toIntS a1).bind fun r6_ =>
      (impl_CubeProblem r5_ r6_).bind fun r7_ =>
      (laws_eqConstraintS r7_.2 r4_.2).bind fun r8_ =>
      cond (!r8_) (
        some false) (
        cond (r7_.1 != r4_.1) (
          some false) (
          (laws_toConstraintS a0).bind fun r9_ =>
          (laws_eqConstraintS r5_ r9_).bind fun r10_ =>
          cond (!r10_) (
            some false) (
            (laws_toIntS a1).bind fun r11_ =>
            (laws_eqIntS r6_ r11_).bind fun r12_ =>
            cond (!r12_) (
              some false) (
              (laws_markConstraintS (1:Int) r5_).bind fun r13_ =>
              (laws_markIntS r13_.1 r6_).bind fun r14_ =>
              cond (decide (r14_.1 < (0:Int))) (
                some false) (
                (laws_eqConstraintS r7_.2 r4_.2).bind fun r15_ =>
                cond (!r15_) (
                  some false) (
                  cond (r7_.1 != r4_.1) (
                    some false) (
                    (laws_markConstraintS (1:Int) r7_.2).bind fun r16_ =>
                    (laws_heldConstraintS r16_.2 (1:Int)).bind fun r17_ =>
                    cond (decide (r17_ < (0:Int))) (
                      some false) (
                      cond (r17_ != r16_.1) (
                        some false) (
                        (laws_toConstraintS a0).bind fun r18_ =>
                        (laws_toIntS a1).bind fun r19_ =>
                        (impl_CubeProblem r18_ r19_).bind fun r20_ =>
                        (laws_eqConstraintS r20_.2 r4_.2).bind fun r21_ =>
                        cond (!r21_) (
                          some false) (
                          cond (r20_.1 != r4_.1) (
                            some false) (
                            (laws_heldConstraintS r16_.2 (1:Int)).bind fun r22_ =>
                            cond (decide (r22_ < (0:Int))) (
                              some false) (
                              cond (r22_ != r16_.1) (
                                some false) (
                                some true)))))))))))))))

/-- spec.l5Hard -/
noncomputable def spec_l5Hard_l1 : Int × ((List Int) × Int) × (List ((List (Int × Int)) × Int)) → Option ((Int × ((List Int) × Int) × (List ((List (Int × Int)) × Int))) ⊕ (((List Int) × Int) × (List ((List (Int × Int)) × Int)))) := fun (i, r_1, list_) =>
  cond (decide ((0:Int) < i)) (
    (spec_l1Draw (4:Int) r_1).bind fun r6_ =>
    (spec_l1Total (r6_.2.2, r6_.2.1)).bind fun r7_ =>
    rq (1 ≤ (2:Int) ∧ 0 ≤ r7_) <|
    rq (i64 ((r7_ / (2:Int)) + (1:Int))) <|
    (spec_l17Rd_pick ((r7_ / (2:Int)) + (1:Int)) r6_.1).bind fun r8_ =>
    rq (i64 (r7_ - r8_.1)) <|
    rq (list_.length + [(r6_.2.2, (r7_ - r8_.1))].length ≤ bound) <|
    rq (i64 (i - (1:Int))) <|
    some (.inl ((i - (1:Int)), r8_.2, (list_ ++ [(r6_.2.2, (r7_ - r8_.1))])))) (
    some (.inr (r_1, list_)))

noncomputable def spec_l5Hard (r_ : (List Int) × Int) : Option (((List Int) × Int) × (List ((List (Int × Int)) × Int))) :=
  (spec_l3Problem r_).bind fun r1_ =>
  (spec_l17Rd_num [(2:Int), (4:Int), (3:Int), (6:Int), (0:Int)] r1_.1).bind fun r2_ =>
  loop (spec_l5Hard_l1) (r2_.1, r2_.2, r1_.2)

/-- spec.DrawCubeProblem -/
noncomputable def spec_DrawCubeProblem (code : List Int) : Option ((List ((List (Int × Int)) × Int)) × (List Int)) :=
  (spec_l17Open code).bind fun r1_ =>
  (spec_l5Hard r1_).bind fun r2_ =>
  (spec_l3Mutate r2_.2 r2_.1).bind fun r3_ =>
  (spec_l12Signed r3_.1).bind fun r4_ =>
  some (r3_.2, r4_.2)

/-- impl.numbered -/
noncomputable def impl_numbered_l1 (n : Int) : Int × (List Bool) → Option ((Int × (List Bool)) ⊕ (List Bool)) := fun (i, out) =>
  cond (decide (i < ((List.replicate (12:Int).toNat false).length:Int))) (
    rq (i64 ((11:Int) - i)) <|
    rq ((0 ≤ ((11:Int) - i) ∧ ((11:Int) - i) ≤ 62) ∧ 0 ≤ n) <|
    rq (0 ≤ (n / 2 ^ ((11:Int) - i).toNat) ∧ 0 ≤ (1:Int)) <|
    rq (0 ≤ i ∧ i < out.length) <|
    rq (i64 (i + (1:Int))) <|
    some (.inl ((i + (1:Int)), (out.set i.toNat ((((n / 2 ^ ((11:Int) - i).toNat).toNat &&& (1:Int).toNat : Nat) : Int) == (1:Int)))))) (
    some (.inr out))

noncomputable def impl_numbered (n : Int) : Option (List Bool) :=
  rq (0 ≤ (12:Int) ∧ (12:Int) ≤ bound ∧ (12:Int) = (12:Int)) <|
  loop (impl_numbered_l1 n) ((0:Int), (List.replicate (12:Int).toNat false))

/-- impl.CountSolutions -/
noncomputable def impl_CountSolutions_l1 (list_ : List ((List (Int × Int)) × Int)) : Int × Int → Option ((Int × Int) ⊕ Int) := fun (count, i) =>
  cond (decide (i < (4096:Int))) (
    (impl_numbered i).bind fun r2_ =>
    (impl_satisfies list_ r2_).bind fun r3_ =>
    cond r3_ (
      rq (i64 (count + (1:Int))) <|
      rq (i64 (i + (1:Int))) <|
      some (.inl ((count + (1:Int)), (i + (1:Int))))) (
      rq (i64 (i + (1:Int))) <|
      some (.inl (count, (i + (1:Int)))))) (
    some (.inr count))

noncomputable def impl_CountSolutions (list_ : List ((List (Int × Int)) × Int)) : Option Int :=
  (impl_ProblemValid list_).bind fun r1_ =>
  cond (!r1_) (
    some (0:Int)) (
    loop (impl_CountSolutions_l1 list_) ((0:Int), (0:Int)))

/-- laws.FnCubeCount -/
noncomputable def laws_FnCubeCount_j1 (r1_ : (List ((List (Int × Int)) × Int)) × (List Int)) : Int → Option Bool := fun i3 =>
  (impl_CountSolutions r1_.1).bind fun r16_ =>
  some (i3 == r16_)

noncomputable def laws_FnCubeCount_l1 (r1_ : (List ((List (Int × Int)) × Int)) × (List Int)) : Int × Int × (List (List Int)) → Option ((Int × Int × (List (List Int))) ⊕ Bool) := fun (i, i1, i2) =>
  cond (decide (i1 < (i2.length:Int))) (
    rq (0 ≤ i1 ∧ i1 < i2.length) <|
    (impl_CubeProblem r1_.1 (i2.getD i1.toNat [])).bind fun r14_ =>
    cond (!r14_.1) (
      some (.inr false)) (
      (impl_CountSolutions r14_.2).bind fun r15_ =>
      rq (i64 (i + r15_)) <|
      rq (i64 (i1 + (1:Int))) <|
      some (.inl ((i + r15_), (i1 + (1:Int)), (i2.set i1.toNat (i2.getD i1.toNat [])))))) (
    up (laws_FnCubeCount_j1 r1_ i))

noncomputable def laws_FnCubeCount (a0 : List Int) (a1 : List Int) : Option Bool :=
  cond (decide ((1048576:Int) < (a0.length:Int))) (
    some true) (
    cond (decide ((1048576:Int) < (a1.length:Int))) (
      some true) (
      (spec_DrawCubeProblem a0).bind fun r1_ =>
      (spec_DrawSplitCubes a1).bind fun r2_ =>
      (impl_SplitCubes r2_).bind fun r3_ =>
      (spec_SplitCubes r2_).bind fun r4_ =>
      cond (r3_.1 != r4_.1) (
        cond (r3_.1 == r4_.1) (
          (laws_cpLists r3_.2 r4_.2).bind fun r11_ =>
          some r11_) (
          some false)) (
        (laws_cpLists r3_.2 r4_.2).bind fun r5_ =>
        cond (!r5_) (
          cond (r3_.1 == r4_.1) (
            (laws_cpLists r3_.2 r4_.2).bind fun r10_ =>
            some r10_) (
            some false)) (
          cond (!r3_.1) (
            cond (r3_.1 == r4_.1) (
              (laws_cpLists r3_.2 r4_.2).bind fun r9_ =>
              some r9_) (
              some false)) (
            (impl_ProblemValid r1_.1).bind fun r6_ =>
            cond (!r6_) (
              cond (r3_.1 == r4_.1) (
                (laws_cpLists r3_.2 r4_.2).bind fun r8_ =>
                some r8_) (
                some false)) (
              cond (decide ((8:Int) < (r3_.2.length:Int))) (
                cond (r3_.1 == r4_.1) (
                  (laws_cpLists r3_.2 r4_.2).bind fun r7_ =>
                  some r7_) (
                  some false)) (
                loop (laws_FnCubeCount_l1 r1_) ((0:Int), (0:Int), r3_.2))))))))

end Go.AE.Y
