/-
  Models of the functions: what each computes, as a Lean function into Option. Definitions alone.
-/
import Derived.Test.YtpeelmjecjbfjaaAEx3
namespace Go.AE.Y
open Go Go.AE
set_option linter.unusedVariables false

/-- laws.szTermS -/
noncomputable def laws_szTermS (a : List (Int × Int)) (left : Int) : Option Int :=
  rq (i64 (left - (a.length:Int))) <|
  cond (decide ((left - (a.length:Int)) < (0:Int))) (
    some (-1:Int)) (
    some (left - (a.length:Int)))

/-- laws.szConstraint -/
noncomputable def laws_szConstraint (a : (List (Int × Int)) × Int) (left : Int) : Option Int :=
  (laws_szTermS a.1 left).bind fun r1_ =>
  cond (decide (r1_ < (0:Int))) (
    some (-1:Int)) (
    some r1_)

/-- laws.szStep -/
noncomputable def laws_szStep (a : Int × Int × Int × (List (Int × Int)) × Int) (left : Int) : Option Int :=
  (laws_szConstraint a.2.2.2 left).bind fun r1_ =>
  cond (decide (r1_ < (0:Int))) (
    some (-1:Int)) (
    some r1_)

/-- laws.szStepS -/
noncomputable def laws_szStepS_l1 (a : List (Int × Int × Int × (List (Int × Int)) × Int)) : Int × Int → Option ((Int × Int) ⊕ Int) := fun (left1, i) =>
  cond (decide (i < (a.length:Int))) (
    rq (0 ≤ i ∧ i < a.length) <|
    (laws_szStep (a.getD i.toNat (0, (0, (0, ([], 0))))) left1).bind fun r1_ =>
    cond (decide (r1_ < (0:Int))) (
      some (.inr (-1:Int))) (
      rq (i64 (i + (1:Int))) <|
      some (.inl (r1_, (i + (1:Int)))))) (
    some (.inr left1))

noncomputable def laws_szStepS (a : List (Int × Int × Int × (List (Int × Int)) × Int)) (left : Int) : Option Int :=
  rq (i64 (left - (a.length:Int))) <|
  cond (decide ((left - (a.length:Int)) < (0:Int))) (
    some (-1:Int)) (
    loop (laws_szStepS_l1 a) ((left - (a.length:Int)), (0:Int)))

/-- laws.szStepSS -/
noncomputable def laws_szStepSS_l1 (a : List (List (Int × Int × Int × (List (Int × Int)) × Int))) : Int × Int → Option ((Int × Int) ⊕ Int) := fun (left1, i) =>
  cond (decide (i < (a.length:Int))) (
    rq (0 ≤ i ∧ i < a.length) <|
    (laws_szStepS (a.getD i.toNat []) left1).bind fun r1_ =>
    cond (decide (r1_ < (0:Int))) (
      some (.inr (-1:Int))) (
      rq (i64 (i + (1:Int))) <|
      some (.inl (r1_, (i + (1:Int)))))) (
    some (.inr left1))

noncomputable def laws_szStepSS (a : List (List (Int × Int × Int × (List (Int × Int)) × Int))) (left : Int) : Option Int :=
  rq (i64 (left - (a.length:Int))) <|
  cond (decide ((left - (a.length:Int)) < (0:Int))) (
    some (-1:Int)) (
    loop (laws_szStepSS_l1 a) ((left - (a.length:Int)), (0:Int)))

/-- laws.toIntS -/
noncomputable def laws_toIntS_l1 (a : List Int) : Int × (List Int) → Option ((Int × (List Int)) ⊕ (List Int)) := fun (i, out) =>
  cond (decide (i < (a.length:Int))) (
    rq (0 ≤ i ∧ i < a.length) <|
    rq (0 ≤ i ∧ i < out.length) <|
    rq (i64 (i + (1:Int))) <|
    some (.inl ((i + (1:Int)), (out.set i.toNat (a.getD i.toNat 0))))) (
    some (.inr out))

noncomputable def laws_toIntS (a : List Int) : Option (List Int) :=
  rq (0 ≤ (a.length:Int) ∧ (a.length:Int) ≤ bound ∧ (a.length:Int) = (a.length:Int)) <|
  loop (laws_toIntS_l1 a) ((0:Int), (List.replicate (a.length:Int).toNat 0))

/-- laws.toTerm -/
noncomputable def laws_toTerm (a : Int × Int) : Option ((Int × Int)) :=
  some a

/-- laws.toTermS -/
noncomputable def laws_toTermS_l1 (a : List (Int × Int)) : Int × (List (Int × Int)) → Option ((Int × (List (Int × Int))) ⊕ ((List (Int × Int)))) := fun (i, out) =>
  cond (decide (i < (a.length:Int))) (
    rq (0 ≤ i ∧ i < a.length) <|
    (laws_toTerm (a.getD i.toNat (0, 0))).bind fun r2_ =>
    rq (0 ≤ i ∧ i < out.length) <|
    rq (i64 (i + (1:Int))) <|
    some (.inl ((i + (1:Int)), (out.set i.toNat r2_)))) (
    some (.inr out))

noncomputable def laws_toTermS (a : List (Int × Int)) : Option ((List (Int × Int))) :=
  rq (0 ≤ (a.length:Int) ∧ (a.length:Int) ≤ bound ∧ (a.length:Int) = (a.length:Int)) <|
  loop (laws_toTermS_l1 a) ((0:Int), (List.replicate (a.length:Int).toNat (0, 0)))

/-- laws.toConstraint -/
noncomputable def laws_toConstraint (a : (List (Int × Int)) × Int) : Option (Int × (List (Int × Int))) :=
  (laws_toTermS a.1).bind fun r1_ =>
  some (a.2, r1_)

/-- laws.toStep -/
noncomputable def laws_toStep (a : Int × Int × Int × (List (Int × Int)) × Int) : Option (Int × Int × Int × Int × (List (Int × Int))) :=
  (laws_toConstraint a.2.2.2).bind fun r1_ =>
  some (a.1, a.2.1, a.2.2.1, r1_.1, r1_.2)

/-- laws.toStepS -/
noncomputable def laws_toStepS_l1 (a : List (Int × Int × Int × (List (Int × Int)) × Int)) : Int × (List (Int × Int × Int × (List (Int × Int)) × Int)) → Option ((Int × (List (Int × Int × Int × (List (Int × Int)) × Int))) ⊕ ((List (Int × Int × Int × (List (Int × Int)) × Int)))) := fun (i, out) =>
  cond (decide (i < (a.length:Int))) (
    rq (0 ≤ i ∧ i < a.length) <|
    (laws_toStep (a.getD i.toNat (0, (0, (0, ([], 0)))))).bind fun r2_ =>
    rq (0 ≤ i ∧ i < out.length) <|
    rq (i64 (i + (1:Int))) <|
    some (.inl ((i + (1:Int)), (out.set i.toNat (r2_.1, (r2_.2.1, (r2_.2.2.1, (r2_.2.2.2.2, r2_.2.2.2.1)))))))) (
    some (.inr out))

noncomputable def laws_toStepS (a : List (Int × Int × Int × (List (Int × Int)) × Int)) : Option ((List (Int × Int × Int × (List (Int × Int)) × Int))) :=
  rq (0 ≤ (a.length:Int) ∧ (a.length:Int) ≤ bound ∧ (a.length:Int) = (a.length:Int)) <|
  loop (laws_toStepS_l1 a) ((0:Int), (List.replicate (a.length:Int).toNat (0, (0, (0, ([], 0))))))

/-- laws.toStepSS -/
noncomputable def laws_toStepSS_l1 (a : List (List (Int × Int × Int × (List (Int × Int)) × Int))) : Int × (List (List (Int × Int × Int × (List (Int × Int)) × Int))) → Option ((Int × (List (List (Int × Int × Int × (List (Int × Int)) × Int)))) ⊕ ((List (List (Int × Int × Int × (List (Int × Int)) × Int))))) := fun (i, out) =>
  cond (decide (i < (a.length:Int))) (
    rq (0 ≤ i ∧ i < a.length) <|
    (laws_toStepS (a.getD i.toNat [])).bind fun r2_ =>
    rq (0 ≤ i ∧ i < out.length) <|
    rq (i64 (i + (1:Int))) <|
    some (.inl ((i + (1:Int)), (out.set i.toNat r2_)))) (
    some (.inr out))

noncomputable def laws_toStepSS (a : List (List (Int × Int × Int × (List (Int × Int)) × Int))) : Option ((List (List (Int × Int × Int × (List (Int × Int)) × Int)))) :=
  rq (0 ≤ (a.length:Int) ∧ (a.length:Int) ≤ bound ∧ (a.length:Int) = (a.length:Int)) <|
  loop (laws_toStepSS_l1 a) ((0:Int), (List.replicate (a.length:Int).toNat []))

/-- spec.l12Vars -/
noncomputable def spec_l12Vars_l1 (vars : List Int) : Int → Option (Int ⊕ Bool) := fun i =>
  cond (decide (i < (vars.length:Int))) (
    rq (0 ≤ i ∧ i < vars.length) <|
    cond (decide ((vars.getD i.toNat 0) < (1:Int))) (
      some (.inr false)) (
      rq (0 ≤ i ∧ i < vars.length) <|
      cond (decide ((12:Int) < (vars.getD i.toNat 0))) (
        some (.inr false)) (
        cond (decide ((0:Int) < i)) (
          rq (i64 (i - (1:Int))) <|
          rq (0 ≤ (i - (1:Int)) ∧ (i - (1:Int)) < vars.length) <|
          rq (0 ≤ i ∧ i < vars.length) <|
          cond (decide ((vars.getD i.toNat 0) ≤ (vars.getD (i - (1:Int)).toNat 0))) (
            some (.inr false)) (
            rq (i64 (i + (1:Int))) <|
            some (.inl (i + (1:Int))))) (
          rq (i64 (i + (1:Int))) <|
          some (.inl (i + (1:Int))))))) (
    some (.inr (decide ((vars.length:Int) ≤ (4:Int)))))

noncomputable def spec_l12Vars (vars : List Int) : Option Bool :=
  loop (spec_l12Vars_l1 vars) (0:Int)

/-- spec.l12Cubes -/
noncomputable def spec_l12Cubes_j1 (vars : List Int) (i : Int) (k_1 : Int) (out2 : List (List Int)) (next1 : List (List Int)) : Unit → Option ((Int × (List (List Int)) × (List (List Int))) ⊕ ((Int × (List (List Int))) ⊕ (List (List Int)))) := fun _ =>
  rq (0 ≤ k_1 ∧ k_1 < (out2.set k_1.toNat (out2.getD k_1.toNat [])).length) <|
  rq (0 ≤ i ∧ i < vars.length) <|
  rq (i64 (0 - (vars.getD i.toNat 0))) <|
  rq (([] : List Int).length + ((out2.set k_1.toNat (out2.getD k_1.toNat [])).getD k_1.toNat []).length ≤ bound) <|
  rq ((([] : List Int) ++ ((out2.set k_1.toNat (out2.getD k_1.toNat [])).getD k_1.toNat [])).length + [(0 - (vars.getD i.toNat 0))].length ≤ bound) <|
  rq ((next1 ++ [((([] : List Int) ++ (out2.getD k_1.toNat [])) ++ [(vars.getD i.toNat 0)])]).length + [((([] : List Int) ++ ((out2.set k_1.toNat (out2.getD k_1.toNat [])).getD k_1.toNat [])) ++ [(0 - (vars.getD i.toNat 0))])].length ≤ bound) <|
  rq (i64 (k_1 + (1:Int))) <|
  some (.inl ((k_1 + (1:Int)), ((out2.set k_1.toNat (out2.getD k_1.toNat [])).set k_1.toNat ((out2.set k_1.toNat (out2.getD k_1.toNat [])).getD k_1.toNat [])), ((next1 ++ [((([] : List Int) ++ (out2.getD k_1.toNat [])) ++ [(vars.getD i.toNat 0)])]) ++ [((([] : List Int) ++ ((out2.set k_1.toNat (out2.getD k_1.toNat [])).getD k_1.toNat [])) ++ [(0 - (vars.getD i.toNat 0))])])))

noncomputable def spec_l12Cubes_l2 (vars : List Int) (i : Int) : Int × (List (List Int)) × (List (List Int)) → Option ((Int × (List (List Int)) × (List (List Int))) ⊕ ((Int × (List (List Int))) ⊕ (List (List Int)))) := fun (k_1, out2, next1) =>
  cond (decide (k_1 < (out2.length:Int))) (
    rq (0 ≤ k_1 ∧ k_1 < out2.length) <|
    rq (0 ≤ i ∧ i < vars.length) <|
    rq (([] : List Int).length + (out2.getD k_1.toNat []).length ≤ bound) <|
    rq ((([] : List Int) ++ (out2.getD k_1.toNat [])).length + [(vars.getD i.toNat 0)].length ≤ bound) <|
    rq (next1.length + [((([] : List Int) ++ (out2.getD k_1.toNat [])) ++ [(vars.getD i.toNat 0)])].length ≤ bound) <|
    spec_l12Cubes_j1 vars i k_1 out2 next1 ()) (
    rq (i64 (i + (1:Int))) <|
    some (.inr (.inl ((i + (1:Int)), next1))))

noncomputable def spec_l12Cubes_l1 (vars : List Int) : Int × (List (List Int)) → Option ((Int × (List (List Int))) ⊕ (List (List Int))) := fun (i, out1) =>
  cond (decide (i < (vars.length:Int))) (
    loop (spec_l12Cubes_l2 vars i) ((0:Int), out1, ([] : List (List Int)))) (
    some (.inr out1))

noncomputable def spec_l12Cubes (vars : List Int) : Option (List (List Int)) :=
  loop (spec_l12Cubes_l1 vars) ((0:Int), [([] : List Int)])

/-- spec.l1Lit -/
noncomputable def spec_l1Lit (n : Int) : Option Bool :=
  cond (n != (0:Int)) (
    cond (decide ((-12:Int) ≤ n)) (
      some (decide (n ≤ (12:Int)))) (
      some false)) (
    some false)

/-- spec.l1Abs -/
noncomputable def spec_l1Abs (n : Int) : Option Int :=
  cond (decide (n < (0:Int))) (
    rq (i64 (0 - n)) <|
    some (0 - n)) (
    some n)

/-- spec.ConstraintValid -/
noncomputable def spec_ConstraintValid_l1 (c_ : (List (Int × Int)) × Int) : Int → Option (Int ⊕ Bool) := fun i =>
  cond (decide (i < (c_.1.length:Int))) (
    rq (0 ≤ i ∧ i < c_.1.length) <|
    (spec_l1Lit (c_.1.getD i.toNat (0, 0)).2).bind fun r4_ =>
    cond (!r4_) (
      some (.inr false)) (
      cond (decide ((c_.1.getD i.toNat (0, 0)).1 < (1:Int))) (
        some (.inr false)) (
        cond (decide ((1000:Int) < (c_.1.getD i.toNat (0, 0)).1)) (
          some (.inr false)) (
          cond (decide ((0:Int) < i)) (
            rq (i64 (i - (1:Int))) <|
            rq (0 ≤ (i - (1:Int)) ∧ (i - (1:Int)) < c_.1.length) <|
            (spec_l1Abs (c_.1.getD (i - (1:Int)).toNat (0, 0)).2).bind fun r5_ =>
            (spec_l1Abs (c_.1.getD i.toNat (0, 0)).2).bind fun r6_ =>
            cond (decide (r6_ ≤ r5_)) (
              some (.inr false)) (
              rq (i64 (i + (1:Int))) <|
              some (.inl (i + (1:Int))))) (
            rq (i64 (i + (1:Int))) <|
            some (.inl (i + (1:Int)))))))) (
    cond (decide ((0:Int) ≤ c_.2)) (
      some (.inr (decide (c_.2 ≤ (20000:Int))))) (
      some (.inr false)))

noncomputable def spec_ConstraintValid (c_ : (List (Int × Int)) × Int) : Option Bool :=
  loop (spec_ConstraintValid_l1 c_) (0:Int)

/-- spec.l12Clause -/
noncomputable def spec_l12Clause_j1 (c_ : (List (Int × Int)) × Int) : (List Int) → Option (Bool × (List Int)) := fun out1 =>
  (spec_ConstraintValid c_).bind fun r2_ =>
  cond r2_ (
    some ((c_.2 == (1:Int)), out1)) (
    some (false, out1))

noncomputable def spec_l12Clause_l1 (c_ : (List (Int × Int)) × Int) : Int × (List Int) → Option ((Int × (List Int)) ⊕ (Bool × (List Int))) := fun (i, out) =>
  cond (decide (i < (c_.1.length:Int))) (
    rq (0 ≤ i ∧ i < c_.1.length) <|
    cond ((c_.1.getD i.toNat (0, 0)).1 != (1:Int)) (
      some (.inr (false, ([] : List Int)))) (
      rq (0 ≤ i ∧ i < c_.1.length) <|
      rq (out.length + [(c_.1.getD i.toNat (0, 0)).2].length ≤ bound) <|
      rq (i64 (i + (1:Int))) <|
      some (.inl ((i + (1:Int)), (out ++ [(c_.1.getD i.toNat (0, 0)).2]))))) (
    up (spec_l12Clause_j1 c_ out))

noncomputable def spec_l12Clause (c_ : (List (Int × Int)) × Int) : Option (Bool × (List Int)) :=
  loop (spec_l12Clause_l1 c_) ((0:Int), ([] : List Int))

/-- spec.ClauseOf -/
noncomputable def spec_ClauseOf_l1 (i2 : List Int) : Int × (List (Int × Int)) → Option ((Int × (List (Int × Int))) ⊕ (Bool × Int × (List (Int × Int)))) := fun (i3, i_0) =>
  cond (decide (i3 ≤ (12:Int))) (
    rq (0 ≤ i3 ∧ i3 < i2.length) <|
    cond ((i2.getD i3.toNat 0) != (0:Int)) (
      rq (0 ≤ i3 ∧ i3 < i2.length) <|
      rq (i_0.length + [((1:Int), (i2.getD i3.toNat 0))].length ≤ bound) <|
      rq (i64 (i3 + (1:Int))) <|
      some (.inl ((i3 + (1:Int)), (i_0 ++ [((1:Int), (i2.getD i3.toNat 0))])))) (
      rq (i64 (i3 + (1:Int))) <|
      some (.inl ((i3 + (1:Int)), i_0)))) (
    some (.inr (true, (1:Int), i_0)))

noncomputable def spec_ClauseOf_j1 : (List Int) → Option (Bool × Int × (List (Int × Int))) := fun i2 =>
  loop (spec_ClauseOf_l1 i2) ((1:Int), ([] : List (Int × Int)))

noncomputable def spec_ClauseOf_l2 (a0 : List Int) : Int × (List Int) → Option ((Int × (List Int)) ⊕ (Bool × Int × (List (Int × Int)))) := fun (i, i1) =>
  cond (decide (i < (a0.length:Int))) (
    rq (0 ≤ i ∧ i < a0.length) <|
    (spec_l1Lit (a0.getD i.toNat 0)).bind fun r3_ =>
    cond (!r3_) (
      some (.inr (false, (0:Int), ([] : List (Int × Int))))) (
      rq (0 ≤ i ∧ i < a0.length) <|
      (spec_l1Abs (a0.getD i.toNat 0)).bind fun r4_ =>
      rq (0 ≤ r4_ ∧ r4_ < i1.length) <|
      rq (0 ≤ i ∧ i < a0.length) <|
      rq (i64 (0 - (a0.getD i.toNat 0))) <|
      cond ((i1.getD r4_.toNat 0) == (0 - (a0.getD i.toNat 0))) (
        some (.inr (false, (0:Int), ([] : List (Int × Int))))) (
        rq (0 ≤ i ∧ i < a0.length) <|
        rq (0 ≤ r4_ ∧ r4_ < i1.length) <|
        rq (i64 (i + (1:Int))) <|
        some (.inl ((i + (1:Int)), (i1.set r4_.toNat (a0.getD i.toNat 0))))))) (
    up (spec_ClauseOf_j1 i1))

noncomputable def spec_ClauseOf (a0 : List Int) : Option (Bool × Int × (List (Int × Int))) :=
  rq (0 ≤ (13:Int) ∧ (13:Int) ≤ bound ∧ (13:Int) = (13:Int)) <|
  cond (decide ((40:Int) < (a0.length:Int))) (
    some (false, (0:Int), ([] : List (Int × Int)))) (
    loop (spec_ClauseOf_l2 a0) ((0:Int), (List.replicate (13:Int).toNat 0)))

/-- spec.l12Lift -/
noncomputable def spec_l12Lift_j1 : (List Int) → Option (Bool × Int × Int × Int × Int × (List (Int × Int))) := fun lits1 =>
  (spec_ClauseOf lits1).bind fun r2_ =>
  cond (!r2_.1) (
    some (false, (0:Int), (0:Int), (0:Int), (0:Int), ([] : List (Int × Int)))) (
    some (true, (7:Int), (0:Int), (0:Int), r2_.2.1, r2_.2.2))

noncomputable def spec_l12Lift_l1 (cube : List Int) : Int × (List Int) → Option ((Int × (List Int)) ⊕ (Bool × Int × Int × Int × Int × (List (Int × Int)))) := fun (i, lits) =>
  cond (decide (i < (cube.length:Int))) (
    rq (0 ≤ i ∧ i < cube.length) <|
    rq (i64 (0 - (cube.getD i.toNat 0))) <|
    rq (lits.length + [(0 - (cube.getD i.toNat 0))].length ≤ bound) <|
    rq (i64 (i + (1:Int))) <|
    some (.inl ((i + (1:Int)), (lits ++ [(0 - (cube.getD i.toNat 0))])))) (
    up (spec_l12Lift_j1 lits))

noncomputable def spec_l12Lift (s_ : Int × Int × Int × (List (Int × Int)) × Int) (cube : List Int) : Option (Bool × Int × Int × Int × Int × (List (Int × Int))) :=
  (spec_l12Clause s_.2.2.2).bind fun r1_ =>
  cond (s_.1 != (7:Int)) (
    some (false, (0:Int), (0:Int), (0:Int), (0:Int), ([] : List (Int × Int)))) (
    cond (s_.2.1 != (0:Int)) (
      some (false, (0:Int), (0:Int), (0:Int), (0:Int), ([] : List (Int × Int)))) (
      cond (s_.2.2.1 != (0:Int)) (
        some (false, (0:Int), (0:Int), (0:Int), (0:Int), ([] : List (Int × Int)))) (
        cond (!r1_.1) (
          some (false, (0:Int), (0:Int), (0:Int), (0:Int), ([] : List (Int × Int)))) (
          loop (spec_l12Lift_l1 cube) ((0:Int), r1_.2)))))

/-- spec.l12Join -/
noncomputable def spec_l12Join_l2 (n : Int) : Int × (List (Int × Int × Int × (List (Int × Int)) × Int)) × (List (List Int)) → Option ((Int × (List (Int × Int × Int × (List (Int × Int)) × Int)) × (List (List Int))) ⊕ ((Int × (List (Int × Int × Int × (List (Int × Int)) × Int))) ⊕ ((List (Int × Int × Int × (List (Int × Int)) × Int))))) := fun (k_1, out3, cubes1) =>
  cond (decide (k_1 < (cubes1.length:Int))) (
    rq (0 ≤ k_1 ∧ k_1 < cubes1.length) <|
    (spec_l12Lift ((7:Int), ((0:Int), ((0:Int), (([] : List (Int × Int)), (1:Int))))) (cubes1.getD k_1.toNat [])).bind fun r6_ =>
    rq (out3.length + [(r6_.2.1, (r6_.2.2.1, (r6_.2.2.2.1, (r6_.2.2.2.2.2, r6_.2.2.2.2.1))))].length ≤ bound) <|
    rq (i64 (k_1 + (1:Int))) <|
    some (.inl ((k_1 + (1:Int)), (out3 ++ [(r6_.2.1, (r6_.2.2.1, (r6_.2.2.2.1, (r6_.2.2.2.2.2, r6_.2.2.2.2.1))))]), (cubes1.set k_1.toNat (cubes1.getD k_1.toNat []))))) (
    rq (i64 (n - (1:Int))) <|
    some (.inr (.inl ((n - (1:Int)), out3))))

noncomputable def spec_l12Join_l1 (vars : List Int) : Int × (List (Int × Int × Int × (List (Int × Int)) × Int)) → Option ((Int × (List (Int × Int × Int × (List (Int × Int)) × Int))) ⊕ ((List (Int × Int × Int × (List (Int × Int)) × Int)))) := fun (n, out2) =>
  cond (decide ((0:Int) ≤ n)) (
    rq (0 ≤ n ∧ n ≤ vars.length) <|
    (spec_l12Cubes (vars.take n.toNat)).bind fun r4_ =>
    loop (spec_l12Join_l2 n) ((0:Int), out2, r4_)) (
    some (.inr out2))

noncomputable def spec_l12Join (vars : List Int) (out : List (Int × Int × Int × (List (Int × Int)) × Int)) : Option ((List (Int × Int × Int × (List (Int × Int)) × Int))) :=
  rq (i64 ((vars.length:Int) - (1:Int))) <|
  loop (spec_l12Join_l1 vars) (((vars.length:Int) - (1:Int)), out)

/-- spec.MergeProofs -/
noncomputable def spec_MergeProofs_j1 (a0 : List Int) : (List (Int × Int × Int × (List (Int × Int)) × Int)) → Option (Bool × (List (Int × Int × Int × (List (Int × Int)) × Int))) := fun i13 =>
  (spec_l12Join a0 i13).bind fun r8_ =>
  cond (decide ((1000:Int) < (r8_.length:Int))) (
    some (false, ([] : List (Int × Int × Int × (List (Int × Int)) × Int)))) (
    some (true, r8_))

noncomputable def spec_MergeProofs_j2 (a1 : List (List (Int × Int × Int × (List (Int × Int)) × Int))) (i : Int) (i8 : Int) (i10 : List (List Int)) (i11 : List (Int × Int × Int × (List (Int × Int)) × Int)) : Bool × Int × Int × Int × Int × (List (Int × Int)) → Option ((Int × (List (List Int)) × (List (Int × Int × Int × (List (Int × Int)) × Int))) ⊕ ((Int × (List (List Int)) × (List (Int × Int × Int × (List (Int × Int)) × Int))) ⊕ (Bool × (List (Int × Int × Int × (List (Int × Int)) × Int))))) := fun (i12, i_03, i_13, i_23, i_43, i_33) =>
  rq (0 ≤ i ∧ i < a1.length) <|
  cond (decide ((1000:Int) < ((a1.getD i.toNat []).length:Int))) (
    some (.inr (.inr (false, ([] : List (Int × Int × Int × (List (Int × Int)) × Int)))))) (
    cond (decide ((1000:Int) < (i11.length:Int))) (
      some (.inr (.inr (false, ([] : List (Int × Int × Int × (List (Int × Int)) × Int)))))) (
      cond i12 (
        rq (i11.length + [(i_03, (i_13, (i_23, (i_33, i_43))))].length ≤ bound) <|
        rq (i64 (i8 + (1:Int))) <|
        some (.inl ((i8 + (1:Int)), (i10.set i.toNat (i10.getD i.toNat [])), (i11 ++ [(i_03, (i_13, (i_23, (i_33, i_43))))])))) (
        rq (i64 (i8 + (1:Int))) <|
        some (.inl ((i8 + (1:Int)), (i10.set i.toNat (i10.getD i.toNat [])), i11)))))

noncomputable def spec_MergeProofs_l2 (a1 : List (List (Int × Int × Int × (List (Int × Int)) × Int))) (i : Int) : Int × (List (List Int)) × (List (Int × Int × Int × (List (Int × Int)) × Int)) → Option ((Int × (List (List Int)) × (List (Int × Int × Int × (List (Int × Int)) × Int))) ⊕ ((Int × (List (List Int)) × (List (Int × Int × Int × (List (Int × Int)) × Int))) ⊕ (Bool × (List (Int × Int × Int × (List (Int × Int)) × Int))))) := fun (i8, i10, i11) =>
  rq (0 ≤ i ∧ i < a1.length) <|
  cond (decide (i8 < ((a1.getD i.toNat []).length:Int))) (
    rq (0 ≤ i ∧ i < a1.length) <|
    rq (0 ≤ i8 ∧ i8 < (a1.getD i.toNat []).length) <|
    rq (0 ≤ i ∧ i < i10.length) <|
    (spec_l12Lift ((a1.getD i.toNat []).getD i8.toNat (0, (0, (0, ([], 0))))) (i10.getD i.toNat [])).bind fun r7_ =>
    spec_MergeProofs_j2 a1 i i8 i10 i11 (r7_.1, r7_.2.1, r7_.2.2.1, r7_.2.2.2.1, r7_.2.2.2.2.1, r7_.2.2.2.2.2)) (
    rq (i64 (i + (1:Int))) <|
    some (.inr (.inl ((i + (1:Int)), i10, i11))))

noncomputable def spec_MergeProofs_l1 (a0 : List Int) (a1 : List (List (Int × Int × Int × (List (Int × Int)) × Int))) : Int × (List (List Int)) × (List (Int × Int × Int × (List (Int × Int)) × Int)) → Option ((Int × (List (List Int)) × (List (Int × Int × Int × (List (Int × Int)) × Int))) ⊕ (Bool × (List (Int × Int × Int × (List (Int × Int)) × Int)))) := fun (i, i6, i7) =>
  cond (decide (i < (i6.length:Int))) (
    loop (spec_MergeProofs_l2 a1 i) ((0:Int), i6, i7)) (
    up (spec_MergeProofs_j1 a0 i7))

noncomputable def spec_MergeProofs (a0 : List Int) (a1 : List (List (Int × Int × Int × (List (Int × Int)) × Int))) : Option (Bool × (List (Int × Int × Int × (List (Int × Int)) × Int))) :=
  (spec_l12Vars a0).bind fun r1_ =>
  cond (!r1_) (
    some (false, ([] : List (Int × Int × Int × (List (Int × Int)) × Int)))) (
    (spec_l12Cubes a0).bind fun r2_ =>
    cond ((a1.length:Int) != (r2_.length:Int)) (
      some (false, ([] : List (Int × Int × Int × (List (Int × Int)) × Int)))) (
      loop (spec_MergeProofs_l1 a0 a1) ((0:Int), r2_, ([] : List (Int × Int × Int × (List (Int × Int)) × Int)))))

/-- impl.within -/
noncomputable def impl_within (n : Int) (low : Int) (high : Int) : Option Bool :=
  cond (decide (low ≤ n)) (
    some (decide (n ≤ high))) (
    some false)

/-- impl.areVars -/
noncomputable def impl_areVars_l1 (vars : List Int) : Int → Option (Int ⊕ Bool) := fun i =>
  cond (decide (i < (vars.length:Int))) (
    rq (0 ≤ i ∧ i < vars.length) <|
    (impl_within (vars.getD i.toNat 0) (1:Int) (12:Int)).bind fun r1_ =>
    cond (!r1_) (
      some (.inr false)) (
      cond (decide ((0:Int) < i)) (
        rq (i64 (i - (1:Int))) <|
        rq (0 ≤ (i - (1:Int)) ∧ (i - (1:Int)) < vars.length) <|
        cond (decide ((vars.getD i.toNat 0) ≤ (vars.getD (i - (1:Int)).toNat 0))) (
          some (.inr false)) (
          rq (i64 (i + (1:Int))) <|
          some (.inl (i + (1:Int))))) (
        rq (i64 (i + (1:Int))) <|
        some (.inl (i + (1:Int)))))) (
    some (.inr true))

noncomputable def impl_areVars (vars : List Int) : Option Bool :=
  loop (impl_areVars_l1 vars) (0:Int)

/-- slices.Clone[[]int,int] -/
noncomputable def slices_Clone_int (s_ : List Int) : Option (List Int) :=
  nt (s_ = []) (
    some ([] : List Int)) (
    rq (([] : List Int).length + s_.length ≤ bound) <|
    some (([] : List Int) ++ s_))

/-- impl.cubesOf -/
noncomputable def impl_cubesOf_l2 (vars : List Int) (i : Int) (out : List (List Int)) : Int × (List (List Int)) × (List (List Int)) → Option ((Int × (List (List Int)) × (List (List Int))) ⊕ ((Int × (List (List Int))) ⊕ (List (List Int)))) := fun (i3, next1, i4) =>
  cond (decide (i3 < (out.length:Int))) (
    rq (0 ≤ i3 ∧ i3 < i4.length) <|
    (slices_Clone_int (i4.getD i3.toNat [])).bind fun r7_ =>
    rq (r7_.length + [(vars.getD i.toNat 0)].length ≤ bound) <|
    (slices_Clone_int (i4.getD i3.toNat [])).bind fun r8_ =>
    rq (i64 (0 - (vars.getD i.toNat 0))) <|
    rq (r8_.length + [(0 - (vars.getD i.toNat 0))].length ≤ bound) <|
    rq (next1.length + [(r7_ ++ [(vars.getD i.toNat 0)]), (r8_ ++ [(0 - (vars.getD i.toNat 0))])].length ≤ bound) <|
    rq (i64 (i3 + (1:Int))) <|
    some (.inl ((i3 + (1:Int)), (next1 ++ [(r7_ ++ [(vars.getD i.toNat 0)]), (r8_ ++ [(0 - (vars.getD i.toNat 0))])]), (i4.set i3.toNat (i4.getD i3.toNat []))))) (
    rq (i64 (i + (1:Int))) <|
    some (.inr (.inl ((i + (1:Int)), next1))))

noncomputable def impl_cubesOf_l1 (vars : List Int) : Int × (List (List Int)) → Option ((Int × (List (List Int))) ⊕ (List (List Int))) := fun (i, out) =>
  cond (decide (i < (vars.length:Int))) (
    rq (0 ≤ i ∧ i < vars.length) <|
    loop (impl_cubesOf_l2 vars i out) ((0:Int), ([] : List (List Int)), out)) (
    some (.inr out))

noncomputable def impl_cubesOf (vars : List Int) : Option (List (List Int)) :=
  loop (impl_cubesOf_l1 vars) ((0:Int), [([] : List Int)])

/-- impl.SplitCubes -/
noncomputable def impl_SplitCubes (vars : List Int) : Option (Bool × (List (List Int))) :=
  (impl_areVars vars).bind fun r1_ =>
  cond (!r1_) (
    some (false, ([] : List (List Int)))) (
    cond (decide ((4:Int) < (vars.length:Int))) (
      some (false, ([] : List (List Int)))) (
      (impl_cubesOf vars).bind fun r2_ =>
      some (true, r2_)))

/-- impl.isLiteral -/
noncomputable def impl_isLiteral (l : Int) : Option Bool :=
  cond (l != (0:Int)) (
    (impl_within l (-12:Int) (12:Int)).bind fun r1_ =>
    some r1_) (
    some false)

/-- impl.variableOf -/
noncomputable def impl_variableOf (l : Int) : Option Int :=
  rq (i64 (0 - l)) <|
  some (max l (0 - l))

/-- impl.ConstraintValid -/
noncomputable def impl_ConstraintValid_l1 (c_ : (List (Int × Int)) × Int) : Int × Int → Option ((Int × Int) ⊕ Bool) := fun (before, i) =>
  cond (decide (i < (c_.1.length:Int))) (
    rq (0 ≤ i ∧ i < c_.1.length) <|
    (impl_isLiteral (c_.1.getD i.toNat (0, 0)).2).bind fun r1_ =>
    cond (!r1_) (
      some (.inr false)) (
      (impl_variableOf (c_.1.getD i.toNat (0, 0)).2).bind fun r2_ =>
      cond (decide (r2_ ≤ before)) (
        some (.inr false)) (
        (impl_within (c_.1.getD i.toNat (0, 0)).1 (1:Int) (1000:Int)).bind fun r3_ =>
        cond (!r3_) (
          some (.inr false)) (
          (impl_variableOf (c_.1.getD i.toNat (0, 0)).2).bind fun r4_ =>
          rq (i64 (i + (1:Int))) <|
          some (.inl (r4_, (i + (1:Int)))))))) (
    (impl_within c_.2 (0:Int) (20000:Int)).bind fun r5_ =>
    some (.inr r5_))

noncomputable def impl_ConstraintValid (c_ : (List (Int × Int)) × Int) : Option Bool :=
  loop (impl_ConstraintValid_l1 c_) ((0:Int), (0:Int))

/-- impl.isCube -/
noncomputable def impl_isCube_l1 (cube : List Int) : Int → Option (Int ⊕ Bool) := fun i =>
  cond (decide (i < (cube.length:Int))) (
    rq (0 ≤ i ∧ i < cube.length) <|
    (impl_isLiteral (cube.getD i.toNat 0)).bind fun r1_ =>
    cond (!r1_) (
      some (.inr false)) (
      cond (decide ((0:Int) < i)) (
        rq (i64 (i - (1:Int))) <|
        rq (0 ≤ (i - (1:Int)) ∧ (i - (1:Int)) < cube.length) <|
        (impl_variableOf (cube.getD (i - (1:Int)).toNat 0)).bind fun r2_ =>
        (impl_variableOf (cube.getD i.toNat 0)).bind fun r3_ =>
        cond (decide (r3_ ≤ r2_)) (
          some (.inr false)) (
          rq (i64 (i + (1:Int))) <|
          some (.inl (i + (1:Int))))) (
        rq (i64 (i + (1:Int))) <|
        some (.inl (i + (1:Int)))))) (
    some (.inr (decide ((cube.length:Int) ≤ (4:Int)))))

noncomputable def impl_isCube (cube : List Int) : Option Bool :=
  loop (impl_isCube_l1 cube) (0:Int)

/-- impl.negations -/
noncomputable def impl_negations_l1 (lits : List Int) : Int × (List Int) → Option ((Int × (List Int)) ⊕ (List Int)) := fun (i, out) =>
  cond (decide (i < (lits.length:Int))) (
    rq (0 ≤ i ∧ i < lits.length) <|
    rq (i64 (0 - (lits.getD i.toNat 0))) <|
    rq (out.length + [(0 - (lits.getD i.toNat 0))].length ≤ bound) <|
    rq (i64 (i + (1:Int))) <|
    some (.inl ((i + (1:Int)), (out ++ [(0 - (lits.getD i.toNat 0))])))) (
    some (.inr out))

noncomputable def impl_negations (lits : List Int) : Option (List Int) :=
  loop (impl_negations_l1 lits) ((0:Int), ([] : List Int))

/-- slices.Index[[]int,int] -/
noncomputable def slices_Index_int_l1 (s_ : List Int) (v : Int) : Int → Option (Int ⊕ Int) := fun i =>
  cond (decide (i < (s_.length:Int))) (
    rq (0 ≤ i ∧ i < s_.length) <|
    cond (v == (s_.getD i.toNat 0)) (
      some (.inr i)) (
      rq (i64 (i + (1:Int))) <|
      some (.inl (i + (1:Int))))) (
    some (.inr (-1:Int)))

noncomputable def slices_Index_int (s_ : List Int) (v : Int) : Option Int :=
  loop (slices_Index_int_l1 s_ v) (0:Int)

/-- slices.Contains[[]int,int] -/
noncomputable def slices_Contains_int (s_ : List Int) (v : Int) : Option Bool :=
  (slices_Index_int s_ v).bind fun r1_ =>
  some (decide ((0:Int) ≤ r1_))

/-- impl.ClauseOf$1 -/
noncomputable def impl_ClauseOf_1 (a : Int) (b : Int) : Option Int :=
  (impl_variableOf a).bind fun r1_ =>
  (impl_variableOf b).bind fun r2_ =>
  rq (i64 (r1_ - r2_)) <|
  some (r1_ - r2_)

/-- slices.Compact[[]int,int] -/
noncomputable def slices_Compact_int_j1 : Int × (List Int) → Option (Int ⊕ (List Int)) := fun (k_2, s_2) =>
  rq (0 ≤ k_2 ∧ k_2 ≤ s_2.length) <|
  rq (0 ≤ k_2 ∧ k_2 ≤ (s_2.take k_2.toNat ++ List.replicate (s_2.length - k_2.toNat) (0:Int)).length) <|
  some (.inr ((s_2.take k_2.toNat ++ List.replicate (s_2.length - k_2.toNat) (0:Int)).take k_2.toNat))

noncomputable def slices_Compact_int_l2 (k_ : Int) : Int × Int × (List Int) → Option ((Int × Int × (List Int)) ⊕ (Int ⊕ (List Int))) := fun (k_1, k2_, s_1) =>
  cond (decide (k2_ < ((s_1.length:Int) - k_))) (
    rq (0 ≤ k2_ ∧ k_ + k2_ < s_1.length) <|
    rq (i64 (k2_ - (1:Int))) <|
    rq (0 ≤ (k2_ - (1:Int)) ∧ k_ + (k2_ - (1:Int)) < s_1.length) <|
    cond ((s_1.getD (k_ + k2_).toNat 0) != (s_1.getD (k_ + (k2_ - (1:Int))).toNat 0)) (
      rq (0 ≤ k2_ ∧ k_ + k2_ < s_1.length) <|
      rq (0 ≤ k_1 ∧ k_1 < s_1.length) <|
      rq (i64 (k_1 + (1:Int))) <|
      rq (i64 (k2_ + (1:Int))) <|
      some (.inl ((k_1 + (1:Int)), (k2_ + (1:Int)), (s_1.set k_1.toNat (s_1.getD (k_ + k2_).toNat 0))))) (
      rq (i64 (k2_ + (1:Int))) <|
      some (.inl (k_1, (k2_ + (1:Int)), s_1)))) (
    up (slices_Compact_int_j1 (k_1, s_1)))

noncomputable def slices_Compact_int_l1 (s_ : List Int) : Int → Option (Int ⊕ (List Int)) := fun k_ =>
  cond (decide (k_ < (s_.length:Int))) (
    rq (0 ≤ k_ ∧ k_ < s_.length) <|
    rq (i64 (k_ - (1:Int))) <|
    rq (0 ≤ (k_ - (1:Int)) ∧ (k_ - (1:Int)) < s_.length) <|
    cond ((s_.getD k_.toNat 0) == (s_.getD (k_ - (1:Int)).toNat 0)) (
      rq (0 ≤ k_ ∧ k_ ≤ s_.length) <|
      loop (slices_Compact_int_l2 k_) (k_, (1:Int), s_)) (
      rq (i64 (k_ + (1:Int))) <|
      some (.inl (k_ + (1:Int))))) (
    some (.inr s_))

noncomputable def slices_Compact_int (s_ : List Int) : Option (List Int) :=
  cond (decide ((s_.length:Int) < (2:Int))) (
    some s_) (
    loop (slices_Compact_int_l1 s_) (1:Int))

/-- impl.ClauseOf -/
noncomputable def impl_ClauseOf_l2 (r5_ : (List Int)) : Int × (List (Int × Int)) → Option ((Int × (List (Int × Int))) ⊕ (Int ⊕ (Bool × Int × (List (Int × Int))))) := fun (i1, c_0) =>
  cond (decide (i1 < (r5_.length:Int))) (
    rq (0 ≤ i1 ∧ i1 < r5_.length) <|
    rq (c_0.length + [((1:Int), (r5_.getD i1.toNat 0))].length ≤ bound) <|
    rq (i64 (i1 + (1:Int))) <|
    some (.inl ((i1 + (1:Int)), (c_0 ++ [((1:Int), (r5_.getD i1.toNat 0))])))) (
    some (.inr (.inr (true, (1:Int), c_0))))

noncomputable def impl_ClauseOf_l1 (lits : List Int) : Int → Option (Int ⊕ (Bool × Int × (List (Int × Int)))) := fun i =>
  cond (decide (i < (lits.length:Int))) (
    rq (0 ≤ i ∧ i < lits.length) <|
    (impl_isLiteral (lits.getD i.toNat 0)).bind fun r1_ =>
    cond (!r1_) (
      some (.inr (false, (0:Int), ([] : List (Int × Int))))) (
      rq (i64 (0 - (lits.getD i.toNat 0))) <|
      (slices_Contains_int lits (0 - (lits.getD i.toNat 0))).bind fun r2_ =>
      cond r2_ (
        some (.inr (false, (0:Int), ([] : List (Int × Int))))) (
        rq (i64 (i + (1:Int))) <|
        some (.inl (i + (1:Int)))))) (
    (slices_Clone_int lits).bind fun r3_ =>
    (sortI impl_ClauseOf_1 r3_).bind fun r4_ =>
    (slices_Compact_int r4_).bind fun r5_ =>
    loop (impl_ClauseOf_l2 r5_) ((0:Int), ([] : List (Int × Int))))

noncomputable def impl_ClauseOf (lits : List Int) : Option (Bool × Int × (List (Int × Int))) :=
  cond (decide ((40:Int) < (lits.length:Int))) (
    some (false, (0:Int), ([] : List (Int × Int)))) (
    loop (impl_ClauseOf_l1 lits) (0:Int))

/-- impl.LiftStep -/
noncomputable def impl_LiftStep_j1 : (List Int) → Option (Bool × Int × Int × Int × Int × (List (Int × Int))) := fun i2 =>
  (impl_ClauseOf i2).bind fun r4_ =>
  cond (!r4_.1) (
    some (false, (0:Int), (0:Int), (0:Int), (0:Int), ([] : List (Int × Int)))) (
    some (true, (7:Int), (0:Int), (0:Int), r4_.2.1, r4_.2.2))

noncomputable def impl_LiftStep_l1 (a0 : Int × Int × Int × (List (Int × Int)) × Int) : Int × (List Int) → Option ((Int × (List Int)) ⊕ (Bool × Int × Int × Int × Int × (List (Int × Int)))) := fun (i, i1) =>
  cond (decide (i < (a0.2.2.2.1.length:Int))) (
    rq (0 ≤ i ∧ i < a0.2.2.2.1.length) <|
    cond ((a0.2.2.2.1.getD i.toNat (0, 0)).1 != (1:Int)) (
      some (.inr (false, (0:Int), (0:Int), (0:Int), (0:Int), ([] : List (Int × Int))))) (
      rq (i1.length + [(a0.2.2.2.1.getD i.toNat (0, 0)).2].length ≤ bound) <|
      rq (i64 (i + (1:Int))) <|
      some (.inl ((i + (1:Int)), (i1 ++ [(a0.2.2.2.1.getD i.toNat (0, 0)).2]))))) (
    up (impl_LiftStep_j1 i1))

noncomputable def impl_LiftStep (a0 : Int × Int × Int × (List (Int × Int)) × Int) (a1 : List Int) : Option (Bool × Int × Int × Int × Int × (List (Int × Int))) :=
  cond (a0.1 != (7:Int)) (
    some (false, (0:Int), (0:Int), (0:Int), (0:Int), ([] : List (Int × Int)))) (
    cond (a0.2.1 != (0:Int)) (
      some (false, (0:Int), (0:Int), (0:Int), (0:Int), ([] : List (Int × Int)))) (
      cond (a0.2.2.1 != (0:Int)) (
        some (false, (0:Int), (0:Int), (0:Int), (0:Int), ([] : List (Int × Int)))) (
        (impl_ConstraintValid a0.2.2.2).bind fun r1_ =>
        cond (!r1_) (
          some (false, (0:Int), (0:Int), (0:Int), (0:Int), ([] : List (Int × Int)))) (
          cond (a0.2.2.2.2 != (1:Int)) (
            some (false, (0:Int), (0:Int), (0:Int), (0:Int), ([] : List (Int × Int)))) (
            (impl_isCube a1).bind fun r2_ =>
            cond (!r2_) (
              some (false, (0:Int), (0:Int), (0:Int), (0:Int), ([] : List (Int × Int)))) (
              (impl_negations a1).bind fun r3_ =>
              loop (impl_LiftStep_l1 a0) ((0:Int), r3_)))))))

/-- impl.MergeProofs -/
noncomputable def impl_MergeProofs_j2 : (List (Int × Int × Int × (List (Int × Int)) × Int)) → Option (Bool × (List (Int × Int × Int × (List (Int × Int)) × Int))) := fun i16 =>
  cond (decide ((1000:Int) < (i16.length:Int))) (
    some (false, ([] : List (Int × Int × Int × (List (Int × Int)) × Int)))) (
    some (true, i16))

noncomputable def impl_MergeProofs_l2 (i8 : Int) (r11_ : (List (List Int))) : Int × (List (Int × Int × Int × (List (Int × Int)) × Int)) × (List (List Int)) → Option ((Int × (List (Int × Int × Int × (List (Int × Int)) × Int)) × (List (List Int))) ⊕ ((Int × (List (Int × Int × Int × (List (Int × Int)) × Int))) ⊕ (Bool × (List (Int × Int × Int × (List (Int × Int)) × Int))))) := fun (i13, i14, i15) =>
  cond (decide (i13 < (r11_.length:Int))) (
    rq (0 ≤ i13 ∧ i13 < i15.length) <|
    (impl_negations (i15.getD i13.toNat [])).bind fun r14_ =>
    (impl_ClauseOf r14_).bind fun r15_ =>
    rq (i14.length + [((7:Int), ((0:Int), ((0:Int), (r15_.2.2, r15_.2.1))))].length ≤ bound) <|
    rq (i64 (i13 + (1:Int))) <|
    some (.inl ((i13 + (1:Int)), (i14 ++ [((7:Int), ((0:Int), ((0:Int), (r15_.2.2, r15_.2.1))))]), (i15.set i13.toNat (i15.getD i13.toNat []))))) (
    rq (i64 (i8 - (1:Int))) <|
    some (.inr (.inl ((i8 - (1:Int)), i14))))

noncomputable def impl_MergeProofs_l1 (a0 : List Int) : Int × (List (Int × Int × Int × (List (Int × Int)) × Int)) → Option ((Int × (List (Int × Int × Int × (List (Int × Int)) × Int))) ⊕ (Bool × (List (Int × Int × Int × (List (Int × Int)) × Int)))) := fun (i8, i12) =>
  cond (decide ((0:Int) ≤ i8)) (
    rq (0 ≤ i8 ∧ i8 ≤ a0.length) <|
    (impl_cubesOf (a0.take i8.toNat)).bind fun r11_ =>
    loop (impl_MergeProofs_l2 i8 r11_) ((0:Int), i12, r11_)) (
    up (impl_MergeProofs_j2 i12))

noncomputable def impl_MergeProofs_j1 (a0 : List Int) : (List (Int × Int × Int × (List (Int × Int)) × Int)) → Option (Bool × (List (Int × Int × Int × (List (Int × Int)) × Int))) := fun i7 =>
  rq (i64 ((a0.length:Int) - (1:Int))) <|
  loop (impl_MergeProofs_l1 a0) (((a0.length:Int) - (1:Int)), i7)

noncomputable def impl_MergeProofs_l4 (a1 : List (List (Int × Int × Int × (List (Int × Int)) × Int))) (i : Int) (i4 : List (List Int)) : Int × (List (Int × Int × Int × (List (Int × Int)) × Int)) → Option ((Int × (List (Int × Int × Int × (List (Int × Int)) × Int))) ⊕ ((Int × (List (Int × Int × Int × (List (Int × Int)) × Int)) × (List (List Int))) ⊕ (Bool × (List (Int × Int × Int × (List (Int × Int)) × Int))))) := fun (i5, i6) =>
  cond (decide (i5 < ((a1.getD i.toNat []).length:Int))) (
    rq (0 ≤ i5 ∧ i5 < (a1.getD i.toNat []).length) <|
    (impl_LiftStep ((a1.getD i.toNat []).getD i5.toNat (0, (0, (0, ([], 0))))) (i4.getD i.toNat [])).bind fun r5_ =>
    cond r5_.1 (
      rq (i6.length + [(r5_.2.1, (r5_.2.2.1, (r5_.2.2.2.1, (r5_.2.2.2.2.2, r5_.2.2.2.2.1))))].length ≤ bound) <|
      rq (i64 (i5 + (1:Int))) <|
      some (.inl ((i5 + (1:Int)), (i6 ++ [(r5_.2.1, (r5_.2.2.1, (r5_.2.2.2.1, (r5_.2.2.2.2.2, r5_.2.2.2.2.1))))])))) (
      rq (i64 (i5 + (1:Int))) <|
      some (.inl ((i5 + (1:Int)), i6)))) (
    rq (i64 (i + (1:Int))) <|
    some (.inr (.inl ((i + (1:Int)), i6, (i4.set i.toNat (i4.getD i.toNat []))))))

noncomputable def impl_MergeProofs_l3 (a0 : List Int) (a1 : List (List (Int × Int × Int × (List (Int × Int)) × Int))) (r1_ : Bool × (List (List Int))) : Int × (List (Int × Int × Int × (List (Int × Int)) × Int)) × (List (List Int)) → Option ((Int × (List (Int × Int × Int × (List (Int × Int)) × Int)) × (List (List Int))) ⊕ (Bool × (List (Int × Int × Int × (List (Int × Int)) × Int)))) := fun (i, i3, i4) =>
  cond (decide (i < (r1_.2.length:Int))) (
    rq (0 ≤ i ∧ i < i4.length) <|
    rq (0 ≤ i ∧ i < a1.length) <|
    cond (decide ((1000:Int) < ((a1.getD i.toNat []).length:Int))) (
      some (.inr (false, ([] : List (Int × Int × Int × (List (Int × Int)) × Int))))) (
      rq (0 ≤ i ∧ i < a1.length) <|
      loop (impl_MergeProofs_l4 a1 i i4) ((0:Int), i3))) (
    up (impl_MergeProofs_j1 a0 i3))

noncomputable def impl_MergeProofs (a0 : List Int) (a1 : List (List (Int × Int × Int × (List (Int × Int)) × Int))) : Option (Bool × (List (Int × Int × Int × (List (Int × Int)) × Int))) :=
  (impl_SplitCubes a0).bind fun r1_ =>
  cond (!r1_.1) (
    some (false, ([] : List (Int × Int × Int × (List (Int × Int)) × Int)))) (
    cond ((a1.length:Int) != (r1_.2.length:Int)) (
      some (false, ([] : List (Int × Int × Int × (List (Int × Int)) × Int)))) (
      loop (impl_MergeProofs_l3 a0 a1 r1_) ((0:Int), ([] : List (Int × Int × Int × (List (Int × Int)) × Int)), r1_.2)))

/-- laws.eqTerm -/
noncomputable def laws_eqTerm (a : Int × Int) (b : Int × Int) : Option Bool :=
  cond (a.1 != b.1) (
    some false) (
    cond (a.2 != b.2) (
      some false) (
      some true))

/-- laws.eqTermS -/
noncomputable def laws_eqTermS_l1 (a : List (Int × Int)) (b : List (Int × Int)) : Int → Option (Int ⊕ Bool) := fun i =>
  cond (decide (i < (a.length:Int))) (
    rq (0 ≤ i ∧ i < a.length) <|
    rq (0 ≤ i ∧ i < b.length) <|
    (laws_eqTerm (a.getD i.toNat (0, 0)) (b.getD i.toNat (0, 0))).bind fun r2_ =>
    cond (!r2_) (
      some (.inr false)) (
      rq (i64 (i + (1:Int))) <|
      some (.inl (i + (1:Int))))) (
    some (.inr true))

noncomputable def laws_eqTermS (a : List (Int × Int)) (b : List (Int × Int)) : Option Bool :=
  cond ((a.length:Int) != (b.length:Int)) (
    some false) (
    loop (laws_eqTermS_l1 a b) (0:Int))

/-- laws.eqConstraint -/
noncomputable def laws_eqConstraint (a : (List (Int × Int)) × Int) (b : (List (Int × Int)) × Int) : Option Bool :=
  (laws_eqTermS a.1 b.1).bind fun r1_ =>
  cond (!r1_) (
    some false) (
    cond (a.2 != b.2) (
      some false) (
      some true))

/-- laws.eqStep -/
noncomputable def laws_eqStep (a : Int × Int × Int × (List (Int × Int)) × Int) (b : Int × Int × Int × (List (Int × Int)) × Int) : Option Bool :=
  cond (a.1 != b.1) (
    some false) (
    cond (a.2.1 != b.2.1) (
      some false) (
      cond (a.2.2.1 != b.2.2.1) (
        some false) (
        (laws_eqConstraint a.2.2.2 b.2.2.2).bind fun r1_ =>
        cond (!r1_) (
          some false) (
          some true))))

/-- laws.eqStepS -/
noncomputable def laws_eqStepS_l1 (a : List (Int × Int × Int × (List (Int × Int)) × Int)) (b : List (Int × Int × Int × (List (Int × Int)) × Int)) : Int → Option (Int ⊕ Bool) := fun i =>
  cond (decide (i < (a.length:Int))) (
    rq (0 ≤ i ∧ i < a.length) <|
    rq (0 ≤ i ∧ i < b.length) <|
    (laws_eqStep (a.getD i.toNat (0, (0, (0, ([], 0))))) (b.getD i.toNat (0, (0, (0, ([], 0)))))).bind fun r2_ =>
    cond (!r2_) (
      some (.inr false)) (
      rq (i64 (i + (1:Int))) <|
      some (.inl (i + (1:Int))))) (
    some (.inr true))

noncomputable def laws_eqStepS (a : List (Int × Int × Int × (List (Int × Int)) × Int)) (b : List (Int × Int × Int × (List (Int × Int)) × Int)) : Option Bool :=
  cond ((a.length:Int) != (b.length:Int)) (
    some false) (
    loop (laws_eqStepS_l1 a b) (0:Int))

/-- laws.eqIntS -/
noncomputable def laws_eqIntS_l1 (a : List Int) (b : List Int) : Int → Option (Int ⊕ Bool) := fun i =>
  cond (decide (i < (a.length:Int))) (
    rq (0 ≤ i ∧ i < a.length) <|
    rq (0 ≤ i ∧ i < b.length) <|
    cond ((a.getD i.toNat 0) != (b.getD i.toNat 0)) (
      some (.inr false)) (
      rq (i64 (i + (1:Int))) <|
      some (.inl (i + (1:Int))))) (
    some (.inr true))

noncomputable def laws_eqIntS (a : List Int) (b : List Int) : Option Bool :=
  cond ((a.length:Int) != (b.length:Int)) (
    some false) (
    loop (laws_eqIntS_l1 a b) (0:Int))

/-- laws.eqStepSS -/
noncomputable def laws_eqStepSS_l1 (a : List (List (Int × Int × Int × (List (Int × Int)) × Int))) (b : List (List (Int × Int × Int × (List (Int × Int)) × Int))) : Int → Option (Int ⊕ Bool) := fun i =>
  cond (decide (i < (a.length:Int))) (
    rq (0 ≤ i ∧ i < a.length) <|
    rq (0 ≤ i ∧ i < b.length) <|
    (laws_eqStepS (a.getD i.toNat []) (b.getD i.toNat [])).bind fun r2_ =>
    cond (!r2_) (
      some (.inr false)) (
      rq (i64 (i + (1:Int))) <|
      some (.inl (i + (1:Int))))) (
    some (.inr true))

noncomputable def laws_eqStepSS (a : List (List (Int × Int × Int × (List (Int × Int)) × Int))) (b : List (List (Int × Int × Int × (List (Int × Int)) × Int))) : Option Bool :=
  cond ((a.length:Int) != (b.length:Int)) (
    some false) (
    loop (laws_eqStepSS_l1 a b) (0:Int))

/-- laws.markIntS -/
noncomputable def laws_markIntS_l1 : Int × Int × (List Int) → Option ((Int × Int × (List Int)) ⊕ (Int × (List Int))) := fun (k_1, i, a1) =>
  cond (decide (i < (a1.length:Int))) (
    rq (0 ≤ i ∧ i < a1.length) <|
    rq (i64 (k_1 + (1:Int))) <|
    rq (i64 (i + (1:Int))) <|
    some (.inl ((k_1 + (1:Int)), (i + (1:Int)), (a1.set i.toNat k_1)))) (
    some (.inr (k_1, a1)))

noncomputable def laws_markIntS (k_ : Int) (a : List Int) : Option (Int × (List Int)) :=
  loop (laws_markIntS_l1) (k_, (0:Int), a)

/-- laws.markTermS -/
noncomputable def laws_markTermS__d_j1 (k_1 : Int) (i : Int) : (List (Int × Int)) → Option ((Int × Int × (List (Int × Int))) ⊕ (Int × (List (Int × Int)))) := fun a3 =>
  rq (i64 ((k_1 + (1:Int)) + (1:Int))) <|
  rq (i64 (i + (1:Int))) <|
  some (.inl (((k_1 + (1:Int)) + (1:Int)), (i + (1:Int)), a3))

noncomputable def laws_markTermS__d_l1 : Int × Int × (List (Int × Int)) → Option ((Int × Int × (List (Int × Int))) ⊕ (Int × (List (Int × Int)))) := fun (k_1, i, a2) =>
  cond (decide (i < (a2.length:Int))) (
    rq (0 ≤ i ∧ i < a2.length) <|
    rq (i64 (k_1 + (1:Int))) <|
    rq (0 ≤ i ∧ i < (a2.set i.toNat (k_1, (a2.getD i.toNat (0, 0)).2)).length) <|
    laws_markTermS__d_j1 k_1 i ((a2.set i.toNat (k_1, (a2.getD i.toNat (0, 0)).2)).set i.toNat (((a2.set i.toNat (k_1, (a2.getD i.toNat (0, 0)).2)).getD i.toNat (0, 0)).1, (k_1 + (1:Int))))) (
    some (.inr (k_1, a2)))

noncomputable def laws_markTermS__d (k_ : Int) (a : List (Int × Int)) : Option (Int × (List (Int × Int))) :=
  loop (laws_markTermS__d_l1) (k_, (0:Int), a)

/-- laws.markStepS -/
noncomputable def laws_markStepS_j3 (i : Int) (r2_ : Int × (List (Int × Int))) : (List (Int × Int × Int × (List (Int × Int)) × Int)) → Option ((Int × Int × (List (Int × Int × Int × (List (Int × Int)) × Int))) ⊕ (Int × (List (Int × Int × Int × (List (Int × Int)) × Int)))) := fun a7 =>
  rq (i64 (r2_.1 + (1:Int))) <|
  rq (i64 (i + (1:Int))) <|
  some (.inl ((r2_.1 + (1:Int)), (i + (1:Int)), a7))

noncomputable def laws_markStepS_j2 (k_1 : Int) (i : Int) : (List (Int × Int × Int × (List (Int × Int)) × Int)) → Option ((Int × Int × (List (Int × Int × Int × (List (Int × Int)) × Int))) ⊕ (Int × (List (Int × Int × Int × (List (Int × Int)) × Int)))) := fun a6 =>
  rq (i64 (((k_1 + (1:Int)) + (1:Int)) + (1:Int))) <|
  rq (0 ≤ i ∧ i < a6.length) <|
  (laws_markTermS__d (((k_1 + (1:Int)) + (1:Int)) + (1:Int)) (a6.getD i.toNat (0, (0, (0, ([], 0))))).2.2.2.1).bind fun r2_ =>
  rq (0 ≤ i ∧ i < a6.length) <|
  laws_markStepS_j3 i r2_ ((a6.set i.toNat ((a6.getD i.toNat (0, (0, (0, ([], 0))))).1, ((a6.getD i.toNat (0, (0, (0, ([], 0))))).2.1, ((a6.getD i.toNat (0, (0, (0, ([], 0))))).2.2.1, ((a6.getD i.toNat (0, (0, (0, ([], 0))))).2.2.2.1, r2_.1))))).set i.toNat (((a6.set i.toNat ((a6.getD i.toNat (0, (0, (0, ([], 0))))).1, ((a6.getD i.toNat (0, (0, (0, ([], 0))))).2.1, ((a6.getD i.toNat (0, (0, (0, ([], 0))))).2.2.1, ((a6.getD i.toNat (0, (0, (0, ([], 0))))).2.2.2.1, r2_.1))))).getD i.toNat (0, (0, (0, ([], 0))))).1, (((a6.set i.toNat ((a6.getD i.toNat (0, (0, (0, ([], 0))))).1, ((a6.getD i.toNat (0, (0, (0, ([], 0))))).2.1, ((a6.getD i.toNat (0, (0, (0, ([], 0))))).2.2.1, ((a6.getD i.toNat (0, (0, (0, ([], 0))))).2.2.2.1, r2_.1))))).getD i.toNat (0, (0, (0, ([], 0))))).2.1, (((a6.set i.toNat ((a6.getD i.toNat (0, (0, (0, ([], 0))))).1, ((a6.getD i.toNat (0, (0, (0, ([], 0))))).2.1, ((a6.getD i.toNat (0, (0, (0, ([], 0))))).2.2.1, ((a6.getD i.toNat (0, (0, (0, ([], 0))))).2.2.2.1, r2_.1))))).getD i.toNat (0, (0, (0, ([], 0))))).2.2.1, (r2_.2, ((a6.set i.toNat ((a6.getD i.toNat (0, (0, (0, ([], 0))))).1, ((a6.getD i.toNat (0, (0, (0, ([], 0))))).2.1, ((a6.getD i.toNat (0, (0, (0, ([], 0))))).2.2.1, ((a6.getD i.toNat (0, (0, (0, ([], 0))))).2.2.2.1, r2_.1))))).getD i.toNat (0, (0, (0, ([], 0))))).2.2.2.2)))))

noncomputable def laws_markStepS_j1 (k_1 : Int) (i : Int) : (List (Int × Int × Int × (List (Int × Int)) × Int)) → Option ((Int × Int × (List (Int × Int × Int × (List (Int × Int)) × Int))) ⊕ (Int × (List (Int × Int × Int × (List (Int × Int)) × Int)))) := fun a5 =>
  rq (i64 ((k_1 + (1:Int)) + (1:Int))) <|
  rq (0 ≤ i ∧ i < a5.length) <|
  laws_markStepS_j2 k_1 i (a5.set i.toNat ((a5.getD i.toNat (0, (0, (0, ([], 0))))).1, ((a5.getD i.toNat (0, (0, (0, ([], 0))))).2.1, (((k_1 + (1:Int)) + (1:Int)), (a5.getD i.toNat (0, (0, (0, ([], 0))))).2.2.2))))

noncomputable def laws_markStepS_l1 : Int × Int × (List (Int × Int × Int × (List (Int × Int)) × Int)) → Option ((Int × Int × (List (Int × Int × Int × (List (Int × Int)) × Int))) ⊕ (Int × (List (Int × Int × Int × (List (Int × Int)) × Int)))) := fun (k_1, i, a4) =>
  cond (decide (i < (a4.length:Int))) (
    rq (0 ≤ i ∧ i < a4.length) <|
    rq (i64 (k_1 + (1:Int))) <|
    rq (0 ≤ i ∧ i < (a4.set i.toNat (k_1, (a4.getD i.toNat (0, (0, (0, ([], 0))))).2)).length) <|
    laws_markStepS_j1 k_1 i ((a4.set i.toNat (k_1, (a4.getD i.toNat (0, (0, (0, ([], 0))))).2)).set i.toNat (((a4.set i.toNat (k_1, (a4.getD i.toNat (0, (0, (0, ([], 0))))).2)).getD i.toNat (0, (0, (0, ([], 0))))).1, ((k_1 + (1:Int)), ((a4.set i.toNat (k_1, (a4.getD i.toNat (0, (0, (0, ([], 0))))).2)).getD i.toNat (0, (0, (0, ([], 0))))).2.2)))) (
    some (.inr (k_1, a4)))

noncomputable def laws_markStepS (k_ : Int) (a : List (Int × Int × Int × (List (Int × Int)) × Int)) : Option (Int × (List (Int × Int × Int × (List (Int × Int)) × Int))) :=
  loop (laws_markStepS_l1) (k_, (0:Int), a)

/-- laws.markStepSS -/
noncomputable def laws_markStepSS_l1 : Int × Int × (List (List (Int × Int × Int × (List (Int × Int)) × Int))) → Option ((Int × Int × (List (List (Int × Int × Int × (List (Int × Int)) × Int)))) ⊕ (Int × (List (List (Int × Int × Int × (List (Int × Int)) × Int))))) := fun (k_1, i, a1) =>
  cond (decide (i < (a1.length:Int))) (
    rq (0 ≤ i ∧ i < a1.length) <|
    (laws_markStepS k_1 (a1.getD i.toNat [])).bind fun r2_ =>
    rq (i64 (i + (1:Int))) <|
    some (.inl (r2_.1, (i + (1:Int)), (a1.set i.toNat r2_.2)))) (
    some (.inr (k_1, a1)))

noncomputable def laws_markStepSS (k_ : Int) (a : List (List (Int × Int × Int × (List (Int × Int)) × Int))) : Option (Int × (List (List (Int × Int × Int × (List (Int × Int)) × Int)))) :=
  loop (laws_markStepSS_l1) (k_, (0:Int), a)

/-- laws.markStepS -/
noncomputable def laws_markStepS_2_j3 (i : Int) (r2_ : Int × (List (Int × Int))) : (List (Int × Int × Int × (List (Int × Int)) × Int)) → Option ((Int × Int × (List (Int × Int × Int × (List (Int × Int)) × Int))) ⊕ (Int × (List (Int × Int × Int × (List (Int × Int)) × Int)))) := fun a7 =>
  rq (i64 (r2_.1 + (1:Int))) <|
  rq (i64 (i + (1:Int))) <|
  some (.inl ((r2_.1 + (1:Int)), (i + (1:Int)), a7))

noncomputable def laws_markStepS_2_j2 (k_1 : Int) (i : Int) : (List (Int × Int × Int × (List (Int × Int)) × Int)) → Option ((Int × Int × (List (Int × Int × Int × (List (Int × Int)) × Int))) ⊕ (Int × (List (Int × Int × Int × (List (Int × Int)) × Int)))) := fun a6 =>
  rq (i64 (((k_1 + (1:Int)) + (1:Int)) + (1:Int))) <|
  rq (0 ≤ i ∧ i < a6.length) <|
  (laws_markTermS__d (((k_1 + (1:Int)) + (1:Int)) + (1:Int)) (a6.getD i.toNat (0, (0, (0, ([], 0))))).2.2.2.1).bind fun r2_ =>
  rq (0 ≤ i ∧ i < a6.length) <|
  laws_markStepS_2_j3 i r2_ ((a6.set i.toNat ((a6.getD i.toNat (0, (0, (0, ([], 0))))).1, ((a6.getD i.toNat (0, (0, (0, ([], 0))))).2.1, ((a6.getD i.toNat (0, (0, (0, ([], 0))))).2.2.1, ((a6.getD i.toNat (0, (0, (0, ([], 0))))).2.2.2.1, r2_.1))))).set i.toNat (((a6.set i.toNat ((a6.getD i.toNat (0, (0, (0, ([], 0))))).1, ((a6.getD i.toNat (0, (0, (0, ([], 0))))).2.1, ((a6.getD i.toNat (0, (0, (0, ([], 0))))).2.2.1, ((a6.getD i.toNat (0, (0, (0, ([], 0))))).2.2.2.1, r2_.1))))).getD i.toNat (0, (0, (0, ([], 0))))).1, (((a6.set i.toNat ((a6.getD i.toNat (0, (0, (0, ([], 0))))).1, ((a6.getD i.toNat (0, (0, (0, ([], 0))))).2.1, ((a6.getD i.toNat (0, (0, (0, ([], 0))))).2.2.1, ((a6.getD i.toNat (0, (0, (0, ([], 0))))).2.2.2.1, r2_.1))))).getD i.toNat (0, (0, (0, ([], 0))))).2.1, (((a6.set i.toNat ((a6.getD i.toNat (0, (0, (0, ([], 0))))).1, ((a6.getD i.toNat (0, (0, (0, ([], 0))))).2.1, ((a6.getD i.toNat (0, (0, (0, ([], 0))))).2.2.1, ((a6.getD i.toNat (0, (0, (0, ([], 0))))).2.2.2.1, r2_.1))))).getD i.toNat (0, (0, (0, ([], 0))))).2.2.1, (r2_.2, ((a6.set i.toNat ((a6.getD i.toNat (0, (0, (0, ([], 0))))).1, ((a6.getD i.toNat (0, (0, (0, ([], 0))))).2.1, ((a6.getD i.toNat (0, (0, (0, ([], 0))))).2.2.1, ((a6.getD i.toNat (0, (0, (0, ([], 0))))).2.2.2.1, r2_.1))))).getD i.toNat (0, (0, (0, ([], 0))))).2.2.2.2)))))

noncomputable def laws_markStepS_2_j1 (k_1 : Int) (i : Int) : (List (Int × Int × Int × (List (Int × Int)) × Int)) → Option ((Int × Int × (List (Int × Int × Int × (List (Int × Int)) × Int))) ⊕ (Int × (List (Int × Int × Int × (List (Int × Int)) × Int)))) := fun a5 =>
  rq (i64 ((k_1 + (1:Int)) + (1:Int))) <|
  rq (0 ≤ i ∧ i < a5.length) <|
  laws_markStepS_2_j2 k_1 i (a5.set i.toNat ((a5.getD i.toNat (0, (0, (0, ([], 0))))).1, ((a5.getD i.toNat (0, (0, (0, ([], 0))))).2.1, (((k_1 + (1:Int)) + (1:Int)), (a5.getD i.toNat (0, (0, (0, ([], 0))))).2.2.2))))

noncomputable def laws_markStepS_2_l1 : Int × Int × (List (Int × Int × Int × (List (Int × Int)) × Int)) → Option ((Int × Int × (List (Int × Int × Int × (List (Int × Int)) × Int))) ⊕ (Int × (List (Int × Int × Int × (List (Int × Int)) × Int)))) := fun (k_1, i, a4) =>
  cond (decide (i < (a4.length:Int))) (
    rq (0 ≤ i ∧ i < a4.length) <|
    rq (i64 (k_1 + (1:Int))) <|
    rq (0 ≤ i ∧ i < (a4.set i.toNat (k_1, (a4.getD i.toNat (0, (0, (0, ([], 0))))).2)).length) <|
    laws_markStepS_2_j1 k_1 i ((a4.set i.toNat (k_1, (a4.getD i.toNat (0, (0, (0, ([], 0))))).2)).set i.toNat (((a4.set i.toNat (k_1, (a4.getD i.toNat (0, (0, (0, ([], 0))))).2)).getD i.toNat (0, (0, (0, ([], 0))))).1, ((k_1 + (1:Int)), ((a4.set i.toNat (k_1, (a4.getD i.toNat (0, (0, (0, ([], 0))))).2)).getD i.toNat (0, (0, (0, ([], 0))))).2.2)))) (
    some (.inr (k_1, a4)))

noncomputable def laws_markStepS_2 (k_ : Int) (a : List (Int × Int × Int × (List (Int × Int)) × Int)) : Option (Int × (List (Int × Int × Int × (List (Int × Int)) × Int))) :=
  loop (laws_markStepS_2_l1) (k_, (0:Int), a)

/-- laws.heldTermS -/
noncomputable def laws_heldTermS_l1 (a : List (Int × Int)) : Int × Int → Option ((Int × Int) ⊕ Int) := fun (k_1, i) =>
  cond (decide (i < (a.length:Int))) (
    rq (0 ≤ i ∧ i < a.length) <|
    cond ((a.getD i.toNat (0, 0)).1 != k_1) (
      some (.inr (-1:Int))) (
      rq (i64 (k_1 + (1:Int))) <|
      rq (0 ≤ i ∧ i < a.length) <|
      cond ((a.getD i.toNat (0, 0)).2 != (k_1 + (1:Int))) (
        some (.inr (-1:Int))) (
        rq (i64 ((k_1 + (1:Int)) + (1:Int))) <|
        rq (i64 (i + (1:Int))) <|
        some (.inl (((k_1 + (1:Int)) + (1:Int)), (i + (1:Int))))))) (
    some (.inr k_1))

noncomputable def laws_heldTermS (a : List (Int × Int)) (k_ : Int) : Option Int :=
  loop (laws_heldTermS_l1 a) (k_, (0:Int))

/-- laws.heldStepS -/
noncomputable def laws_heldStepS_l1 (a : List (Int × Int × Int × (List (Int × Int)) × Int)) : Int × Int → Option ((Int × Int) ⊕ Int) := fun (k_1, i) =>
  cond (decide (i < (a.length:Int))) (
    rq (0 ≤ i ∧ i < a.length) <|
    cond ((a.getD i.toNat (0, (0, (0, ([], 0))))).1 != k_1) (
      some (.inr (-1:Int))) (
      rq (i64 (k_1 + (1:Int))) <|
      rq (0 ≤ i ∧ i < a.length) <|
      cond ((a.getD i.toNat (0, (0, (0, ([], 0))))).2.1 != (k_1 + (1:Int))) (
        some (.inr (-1:Int))) (
        rq (i64 ((k_1 + (1:Int)) + (1:Int))) <|
        rq (0 ≤ i ∧ i < a.length) <|
        cond ((a.getD i.toNat (0, (0, (0, ([], 0))))).2.2.1 != ((k_1 + (1:Int)) + (1:Int))) (
          some (.inr (-1:Int))) (
          rq (i64 (((k_1 + (1:Int)) + (1:Int)) + (1:Int))) <|
          rq (0 ≤ i ∧ i < a.length) <|
          (laws_heldTermS (a.getD i.toNat (0, (0, (0, ([], 0))))).2.2.2.1 (((k_1 + (1:Int)) + (1:Int)) + (1:Int))).bind fun r1_ =>
          cond (decide (r1_ < (0:Int))) (
            some (.inr (-1:Int))) (
            rq (0 ≤ i ∧ i < a.length) <|
            cond ((a.getD i.toNat (0, (0, (0, ([], 0))))).2.2.2.2 != r1_) (
              some (.inr (-1:Int))) (
              rq (i64 (r1_ + (1:Int))) <|
              rq (i64 (i + (1:Int))) <|
              some (.inl ((r1_ + (1:Int)), (i + (1:Int)))))))))) (
    some (.inr k_1))

noncomputable def laws_heldStepS (a : List (Int × Int × Int × (List (Int × Int)) × Int)) (k_ : Int) : Option Int :=
  loop (laws_heldStepS_l1 a) (k_, (0:Int))

/-- laws.FnExactMergeProofs -/
noncomputable def laws_FnExactMergeProofs (a0 : List Int) (a1 : List (List (Int × Int × Int × (List (Int × Int)) × Int))) : Option Bool :=
  cond (decide ((1048576:Int) < (a0.length:Int))) (
    some true) (
    (laws_szStepSS a1 (1048576:Int)).bind fun r1_ =>
    cond (decide (r1_ < (0:Int))) (
      some true) (
      (laws_toIntS a0).bind fun r2_ =>
      (laws_toStepSS a1).bind fun r3_ =>
      (spec_MergeProofs r2_ r3_).bind fun r4_ =>
      (laws_toIntS a0).bind fun r5_ =>
      (laws_toStepSS a1).bind fun r6_ =>
      (impl_MergeProofs r5_ r6_).bind fun r7_ =>
      (laws_eqStepS r7_.2 r4_.2).bind fun r8_ =>
      cond (!r8_) (
        some false) (
        cond (r7_.1 != r4_.1) (
          some false) (
          (laws_toIntS a0).bind fun r9_ =>
          (laws_eqIntS r5_ r9_).bind fun r10_ =>
          cond (!r10_) (
            some false) (
            (laws_toStepSS a1).bind fun r11_ =>
            (laws_eqStepSS r6_ r11_).bind fun r12_ =>
            cond (!r12_) (
              some false) (
              (laws_markIntS (1:Int) r5_).bind fun r13_ =>
              (laws_markStepSS r13_.1 r6_).bind fun r14_ =>
              cond (decide (r14_.1 < (0:Int))) (
                some false) (
                (laws_eqStepS r7_.2 r4_.2).bind fun r15_ =>
                cond (!r15_) (
                  some false) (
                  cond (r7_.1 != r4_.1) (
                    some false) (
                    (laws_markStepS_2 (1:Int) r7_.2).bind fun r16_ =>
                    (laws_heldStepS r16_.2 (1:Int)).bind fun r17_ =>
                    cond (decide (r17_ < (0:Int))) (
                      some false) (
                      cond (r17_ != r16_.1) (
                        some false) (
                        (laws_toIntS a0).bind fun r18_ =>
                        (laws_toStepSS a1).bind fun r19_ =>
                        (impl_MergeProofs r18_ r19_).bind fun r20_ =>
                        (laws_eqStepS r20_.2 r4_.2).bind fun r21_ =>
                        cond (!r21_) (
                          some false) (
                          cond (r20_.1 != r4_.1) (
                            some false) (
                            (laws_heldStepS r16_.2 (1:Int)).bind fun r22_ =>
                            cond (decide (r22_ < (0:Int))) (
                              some false) (
                              cond (r22_ != r16_.1) (
                                some false) (
                                some true)))))))))))))))

end Go.AE.Y
