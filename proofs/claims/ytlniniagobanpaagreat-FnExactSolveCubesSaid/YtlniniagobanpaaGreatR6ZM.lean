/-
  Models of the functions: what each computes, as a Lean function into Option. Definitions alone.
-/
import Derived.Test.YtlniniagobanpaaGreatAEx3
namespace Go.AE.Y
open Go Go.AE
set_option linter.unusedVariables false

abbrev y0_ : Ty := (.int .i64)
abbrev y1_ : Ty := (.pair y0_ y0_)
abbrev D1_ : Type := Int × Int
abbrev y2_ : Ty := (.pair (.sl y1_) y0_)
abbrev D2_ : Type := (List (Int × Int)) × Int
abbrev y3_ : Ty := (.pair y0_ y2_)
abbrev D3_ : Type := Int × (List (Int × Int)) × Int
abbrev y4_ : Ty := (.pair y0_ y3_)
abbrev D4_ : Type := Int × Int × (List (Int × Int)) × Int
abbrev y5_ : Ty := (.pair y0_ y4_)
abbrev D5_ : Type := Int × Int × Int × (List (Int × Int)) × Int

/-- laws.szTermS -/
noncomputable def laws_szTermS (a : List D1_) (left : Int) : Option Int :=
 rq (i64 (left - (a.length:Int))) <|
 cond (decide ((left - (a.length:Int)) < (0:Int))) (
  some (-1:Int)) (
  some (left - (a.length:Int)))

/-- laws.szConstraint -/
noncomputable def laws_szConstraint (a : (List D1_) × Int) (left : Int) : Option Int :=
 (laws_szTermS a.1 left).bind fun r1_ =>
 cond (decide (r1_ < (0:Int))) (
  some (-1:Int)) (
  some r1_)

/-- laws.szConstraintS -/
noncomputable def laws_szConstraintS_l1 (a : List D2_) : Int × Int → Option ((Int × Int) ⊕ Int) := fun (left1, i) =>
 cond (decide (i < (a.length:Int))) (
  rq (0 ≤ i ∧ i < a.length) <|
  (laws_szConstraint (a.getD i.toNat ([], 0)) left1).bind fun r1_ =>
  cond (decide (r1_ < (0:Int))) (
   some (.inr (-1:Int))) (
   rq (i64 (i + (1:Int))) <|
   some (.inl (r1_, (i + (1:Int)))))) (
  some (.inr left1))

noncomputable def laws_szConstraintS (a : List D2_) (left : Int) : Option Int :=
 rq (i64 (left - (a.length:Int))) <|
 cond (decide ((left - (a.length:Int)) < (0:Int))) (
  some (-1:Int)) (
  loop (laws_szConstraintS_l1 a) ((left - (a.length:Int)), (0:Int)))

/-- laws.toTerm -/
noncomputable def laws_toTerm (a : Int × Int) : Option D1_ :=
 some a

/-- laws.toTermS -/
noncomputable def laws_toTermS_l1 (a : List D1_) : Int × (List D1_) → Option ((Int × (List D1_)) ⊕ (List D1_)) := fun (i, out) =>
 cond (decide (i < (a.length:Int))) (
  rq (0 ≤ i ∧ i < a.length) <|
  (laws_toTerm (a.getD i.toNat (0, 0))).bind fun r2_ =>
  rq (0 ≤ i ∧ i < out.length) <|
  rq (i64 (i + (1:Int))) <|
  some (.inl ((i + (1:Int)), (out.set i.toNat r2_)))) (
  some (.inr out))

noncomputable def laws_toTermS (a : List D1_) : Option (List D1_) :=
 rq (0 ≤ (a.length:Int) ∧ (a.length:Int) ≤ bound ∧ (a.length:Int) = (a.length:Int)) <|
 loop (laws_toTermS_l1 a) ((0:Int), (List.replicate (a.length:Int).toNat (0, 0)))

/-- laws.toConstraint -/
noncomputable def laws_toConstraint (a : (List D1_) × Int) : Option (Int × (List D1_)) :=
 (laws_toTermS a.1).bind fun r1_ =>
 some (a.2, r1_)

/-- laws.toConstraintS -/
noncomputable def laws_toConstraintS_l1 (a : List D2_) : Int × (List D2_) → Option ((Int × (List D2_)) ⊕ (List D2_)) := fun (i, out) =>
 cond (decide (i < (a.length:Int))) (
  rq (0 ≤ i ∧ i < a.length) <|
  (laws_toConstraint (a.getD i.toNat ([], 0))).bind fun r2_ =>
  rq (0 ≤ i ∧ i < out.length) <|
  rq (i64 (i + (1:Int))) <|
  some (.inl ((i + (1:Int)), (out.set i.toNat (r2_.2, r2_.1))))) (
  some (.inr out))

noncomputable def laws_toConstraintS (a : List D2_) : Option (List D2_) :=
 rq (0 ≤ (a.length:Int) ∧ (a.length:Int) ≤ bound ∧ (a.length:Int) = (a.length:Int)) <|
 loop (laws_toConstraintS_l1 a) ((0:Int), (List.replicate (a.length:Int).toNat ([], 0)))

/-- laws.toIntS -/
noncomputable def laws_toIntS_l1 (a : List Int) : Int × (List Int) → Option ((Int × (List Int)) ⊕ (List Int)) := fun (i, out) =>
 cond (decide (i < (a.length:Int))) (
  rq (0 ≤ i ∧ i < a.length) <|
  rq (0 ≤ i ∧ i < out.length) <|
  rq (i64 (i + (1:Int))) <|
  some (.inl ((i + (1:Int)), (out.set i.toNat (a.getD i.toNat 0))))) (
  some (.inr out))

noncomputable def laws_toIntS (a : List Int) : Option (List Int) :=
 rq (0 ≤ (a.length:Int) ∧ (a.length:Int) ≤ bound ∧ (a.length:Int) = (a.length:Int)) <|
 loop (laws_toIntS_l1 a) ((0:Int), (List.replicate (a.length:Int).toNat 0))

/-- spec.l1Lit -/
noncomputable def spec_l1Lit (n : Int) : Option Bool :=
 cond (n != (0:Int)) (
  cond (decide ((-12:Int) ≤ n)) (
   some (decide (n ≤ (12:Int)))) (
   some false)) (
  some false)

/-- spec.l1Abs -/
noncomputable def spec_l1Abs (n : Int) : Option Int :=
 cond (decide (n < (0:Int))) (
  rq (i64 (0 - n)) <|
  some (0 - n)) (
  some n)

/-- spec.ConstraintValid -/
noncomputable def spec_ConstraintValid_l1 (c_ : (List D1_) × Int) : Int → Option (Int ⊕ Bool) := fun i =>
 cond (decide (i < (c_.1.length:Int))) (
  rq (0 ≤ i ∧ i < c_.1.length) <|
  (spec_l1Lit (c_.1.getD i.toNat (0, 0)).2).bind fun r4_ =>
  cond (!r4_) (
   some (.inr false)) (
   cond (decide ((c_.1.getD i.toNat (0, 0)).1 < (1:Int))) (
    some (.inr false)) (
    cond (decide ((1000:Int) < (c_.1.getD i.toNat (0, 0)).1)) (
     some (.inr false)) (
     cond (decide ((0:Int) < i)) (
      rq (i64 (i - (1:Int))) <|
      rq (0 ≤ (i - (1:Int)) ∧ (i - (1:Int)) < c_.1.length) <|
      (spec_l1Abs (c_.1.getD (i - (1:Int)).toNat (0, 0)).2).bind fun r5_ =>
      (spec_l1Abs (c_.1.getD i.toNat (0, 0)).2).bind fun r6_ =>
      cond (decide (r6_ ≤ r5_)) (
       some (.inr false)) (
       rq (i64 (i + (1:Int))) <|
       some (.inl (i + (1:Int))))) (
      rq (i64 (i + (1:Int))) <|
      some (.inl (i + (1:Int)))))))) (
  cond (decide ((0:Int) ≤ c_.2)) (
   some (.inr (decide (c_.2 ≤ (20000:Int))))) (
   some (.inr false)))

noncomputable def spec_ConstraintValid (c_ : (List D1_) × Int) : Option Bool :=
 loop (spec_ConstraintValid_l1 c_) (0:Int)

/-- spec.ProblemValid -/
noncomputable def spec_ProblemValid_l1 (list_ : List D2_) : Int → Option (Int ⊕ Bool) := fun i =>
 cond (decide (i < (list_.length:Int))) (
  rq (0 ≤ i ∧ i < list_.length) <|
  (spec_ConstraintValid (list_.getD i.toNat ([], 0))).bind fun r1_ =>
  cond (!r1_) (
   some (.inr false)) (
   rq (i64 (i + (1:Int))) <|
   some (.inl (i + (1:Int))))) (
  some (.inr (decide ((list_.length:Int) ≤ (400:Int)))))

noncomputable def spec_ProblemValid (list_ : List D2_) : Option Bool :=
 loop (spec_ProblemValid_l1 list_) (0:Int)

/-- spec.l12Vars -/
noncomputable def spec_l12Vars_l1 (vars : List Int) : Int → Option (Int ⊕ Bool) := fun i =>
 cond (decide (i < (vars.length:Int))) (
  rq (0 ≤ i ∧ i < vars.length) <|
  cond (decide ((vars.getD i.toNat 0) < (1:Int))) (
   some (.inr false)) (
   rq (0 ≤ i ∧ i < vars.length) <|
   cond (decide ((12:Int) < (vars.getD i.toNat 0))) (
    some (.inr false)) (
    cond (decide ((0:Int) < i)) (
     rq (i64 (i - (1:Int))) <|
     rq (0 ≤ (i - (1:Int)) ∧ (i - (1:Int)) < vars.length) <|
     rq (0 ≤ i ∧ i < vars.length) <|
     cond (decide ((vars.getD i.toNat 0) ≤ (vars.getD (i - (1:Int)).toNat 0))) (
      some (.inr false)) (
      rq (i64 (i + (1:Int))) <|
      some (.inl (i + (1:Int))))) (
     rq (i64 (i + (1:Int))) <|
     some (.inl (i + (1:Int))))))) (
  some (.inr (decide ((vars.length:Int) ≤ (4:Int)))))

noncomputable def spec_l12Vars (vars : List Int) : Option Bool :=
 loop (spec_l12Vars_l1 vars) (0:Int)

/-- spec.l12Cubes -/
noncomputable def spec_l12Cubes_j1 (vars : List Int) (i : Int) (k_1 : Int) (out2 : List (List Int)) (next1 : List (List Int)) : Unit → Option ((Int × (List (List Int)) × (List (List Int))) ⊕ ((Int × (List (List Int))) ⊕ (List (List Int)))) := fun _ =>
 rq (0 ≤ k_1 ∧ k_1 < (out2.set k_1.toNat (out2.getD k_1.toNat [])).length) <|
 rq (0 ≤ i ∧ i < vars.length) <|
 rq (i64 (0 - (vars.getD i.toNat 0))) <|
 rq (([] : List Int).length + ((out2.set k_1.toNat (out2.getD k_1.toNat [])).getD k_1.toNat []).length ≤ bound) <|
 rq ((([] : List Int) ++ ((out2.set k_1.toNat (out2.getD k_1.toNat [])).getD k_1.toNat [])).length + [(0 - (vars.getD i.toNat 0))].length ≤ bound) <|
 rq ((next1 ++ [((([] : List Int) ++ (out2.getD k_1.toNat [])) ++ [(vars.getD i.toNat 0)])]).length + [((([] : List Int) ++ ((out2.set k_1.toNat (out2.getD k_1.toNat [])).getD k_1.toNat [])) ++ [(0 - (vars.getD i.toNat 0))])].length ≤ bound) <|
 rq (i64 (k_1 + (1:Int))) <|
 some (.inl ((k_1 + (1:Int)), ((out2.set k_1.toNat (out2.getD k_1.toNat [])).set k_1.toNat ((out2.set k_1.toNat (out2.getD k_1.toNat [])).getD k_1.toNat [])), ((next1 ++ [((([] : List Int) ++ (out2.getD k_1.toNat [])) ++ [(vars.getD i.toNat 0)])]) ++ [((([] : List Int) ++ ((out2.set k_1.toNat (out2.getD k_1.toNat [])).getD k_1.toNat [])) ++ [(0 - (vars.getD i.toNat 0))])])))

noncomputable def spec_l12Cubes_l2 (vars : List Int) (i : Int) : Int × (List (List Int)) × (List (List Int)) → Option ((Int × (List (List Int)) × (List (List Int))) ⊕ ((Int × (List (List Int))) ⊕ (List (List Int)))) := fun (k_1, out2, next1) =>
 cond (decide (k_1 < (out2.length:Int))) (
  rq (0 ≤ k_1 ∧ k_1 < out2.length) <|
  rq (0 ≤ i ∧ i < vars.length) <|
  rq (([] : List Int).length + (out2.getD k_1.toNat []).length ≤ bound) <|
  rq ((([] : List Int) ++ (out2.getD k_1.toNat [])).length + [(vars.getD i.toNat 0)].length ≤ bound) <|
  rq (next1.length + [((([] : List Int) ++ (out2.getD k_1.toNat [])) ++ [(vars.getD i.toNat 0)])].length ≤ bound) <|
  spec_l12Cubes_j1 vars i k_1 out2 next1 ()) (
  rq (i64 (i + (1:Int))) <|
  some (.inr (.inl ((i + (1:Int)), next1))))

noncomputable def spec_l12Cubes_l1 (vars : List Int) : Int × (List (List Int)) → Option ((Int × (List (List Int))) ⊕ (List (List Int))) := fun (i, out1) =>
 cond (decide (i < (vars.length:Int))) (
  loop (spec_l12Cubes_l2 vars i) ((0:Int), out1, ([] : List (List Int)))) (
  some (.inr out1))

noncomputable def spec_l12Cubes (vars : List Int) : Option (List (List Int)) :=
 loop (spec_l12Cubes_l1 vars) ((0:Int), [([] : List Int)])

/-- spec.l1Copy -/
noncomputable def spec_l1Copy (c_ : (List D1_) × Int) : Option (Int × (List D1_)) :=
 rq (([] : List D1_).length + c_.1.length ≤ bound) <|
 some (c_.2, (([] : List D1_) ++ c_.1))

/-- spec.l12Under -/
noncomputable def spec_l12Under_l1 (cube : List Int) : Int × (List D2_) → Option ((Int × (List D2_)) ⊕ (List D2_)) := fun (i1, out2) =>
 cond (decide (i1 < (cube.length:Int))) (
  rq (0 ≤ i1 ∧ i1 < cube.length) <|
  rq (out2.length + [([((1:Int), (cube.getD i1.toNat 0))], (1:Int))].length ≤ bound) <|
  rq (i64 (i1 + (1:Int))) <|
  some (.inl ((i1 + (1:Int)), (out2 ++ [([((1:Int), (cube.getD i1.toNat 0))], (1:Int))])))) (
  some (.inr out2))

noncomputable def spec_l12Under_j1 (cube : List Int) : (List D2_) → Option (List D2_) := fun out1 =>
 loop (spec_l12Under_l1 cube) ((0:Int), out1)

noncomputable def spec_l12Under_l2 (list_ : List D2_) (cube : List Int) : Int × (List D2_) → Option ((Int × (List D2_)) ⊕ (List D2_)) := fun (i, out) =>
 cond (decide (i < (list_.length:Int))) (
  rq (0 ≤ i ∧ i < list_.length) <|
  (spec_l1Copy (list_.getD i.toNat ([], 0))).bind fun r2_ =>
  rq (out.length + [(r2_.2, r2_.1)].length ≤ bound) <|
  rq (i64 (i + (1:Int))) <|
  some (.inl ((i + (1:Int)), (out ++ [(r2_.2, r2_.1)])))) (
  up (spec_l12Under_j1 cube out))

noncomputable def spec_l12Under (list_ : List D2_) (cube : List Int) : Option (List D2_) :=
 loop (spec_l12Under_l2 list_ cube) ((0:Int), ([] : List D2_))

/-- spec.l3Assign -/
noncomputable def spec_l3Assign (lit : Int) (p : List Int) : Option (List Int) :=
 cond (decide ((0:Int) < lit)) (
  rq (i64 (lit - (1:Int))) <|
  rq (0 ≤ (lit - (1:Int)) ∧ (lit - (1:Int)) < p.length) <|
  some (p.set (lit - (1:Int)).toNat (1:Int))) (
  rq (i64 (0 - lit)) <|
  rq (i64 ((0 - lit) - (1:Int))) <|
  rq (0 ≤ ((0 - lit) - (1:Int)) ∧ ((0 - lit) - (1:Int)) < p.length) <|
  some (p.set ((0 - lit) - (1:Int)).toNat (-1:Int)))

/-- spec.l3State -/
noncomputable def spec_l3State (p : List Int) (lit : Int) : Option Int :=
 cond (decide ((0:Int) < lit)) (
  rq (i64 (lit - (1:Int))) <|
  rq (0 ≤ (lit - (1:Int)) ∧ (lit - (1:Int)) < p.length) <|
  some (p.getD (lit - (1:Int)).toNat 0)) (
  rq (i64 (0 - lit)) <|
  rq (i64 ((0 - lit) - (1:Int))) <|
  rq (0 ≤ ((0 - lit) - (1:Int)) ∧ ((0 - lit) - (1:Int)) < p.length) <|
  rq (i64 (0 - (p.getD ((0 - lit) - (1:Int)).toNat 0))) <|
  some (0 - (p.getD ((0 - lit) - (1:Int)).toNat 0)))

/-- spec.l3Slack -/
noncomputable def spec_l3Slack_l1 (c_ : (List D1_) × Int) (p : List Int) : Int × Int → Option ((Int × Int) ⊕ Int) := fun (n, i) =>
 cond (decide (i < (c_.1.length:Int))) (
  rq (0 ≤ i ∧ i < c_.1.length) <|
  (spec_l3State p (c_.1.getD i.toNat (0, 0)).2).bind fun r1_ =>
  cond (decide ((0:Int) ≤ r1_)) (
   rq (0 ≤ i ∧ i < c_.1.length) <|
   rq (i64 (n + (c_.1.getD i.toNat (0, 0)).1)) <|
   rq (i64 (i + (1:Int))) <|
   some (.inl ((n + (c_.1.getD i.toNat (0, 0)).1), (i + (1:Int))))) (
   rq (i64 (i + (1:Int))) <|
   some (.inl (n, (i + (1:Int)))))) (
  some (.inr n))

noncomputable def spec_l3Slack (c_ : (List D1_) × Int) (p : List Int) : Option Int :=
 rq (i64 (0 - c_.2)) <|
 loop (spec_l3Slack_l1 c_ p) ((0 - c_.2), (0:Int))

/-- spec.l3Implied -/
noncomputable def spec_l3Implied_l1 (c_ : (List D1_) × Int) (p : List Int) (r1_ : Int) : Int × (List Int) → Option ((Int × (List Int)) ⊕ (List Int)) := fun (i, out) =>
 cond (decide (i < (c_.1.length:Int))) (
  cond (decide ((0:Int) ≤ r1_)) (
   rq (0 ≤ i ∧ i < c_.1.length) <|
   (spec_l3State p (c_.1.getD i.toNat (0, 0)).2).bind fun r3_ =>
   cond (r3_ == (0:Int)) (
    rq (0 ≤ i ∧ i < c_.1.length) <|
    cond (decide (r1_ < (c_.1.getD i.toNat (0, 0)).1)) (
     rq (0 ≤ i ∧ i < c_.1.length) <|
     rq (out.length + [(c_.1.getD i.toNat (0, 0)).2].length ≤ bound) <|
     rq (i64 (i + (1:Int))) <|
     some (.inl ((i + (1:Int)), (out ++ [(c_.1.getD i.toNat (0, 0)).2])))) (
     rq (i64 (i + (1:Int))) <|
     some (.inl ((i + (1:Int)), out)))) (
    rq (i64 (i + (1:Int))) <|
    some (.inl ((i + (1:Int)), out)))) (
   some (.inr out))) (
  some (.inr out))

noncomputable def spec_l3Implied (c_ : (List D1_) × Int) (p : List Int) : Option (List Int) :=
 (spec_l3Slack c_ p).bind fun r1_ =>
 loop (spec_l3Implied_l1 c_ p r1_) ((0:Int), ([] : List Int))

/-- spec.l3Propagate -/
noncomputable def spec_l3Propagate_l3 (i1 : Int) (r14_ : (List Int)) : Bool × Int × (List Int) → Option ((Bool × Int × (List Int)) ⊕ ((Bool × Int × (List Int)) ⊕ ((Bool × (List Int)) ⊕ (Int × (List Int))))) := fun (changed6, k_3, p7) =>
 cond (decide (k_3 < (r14_.length:Int))) (
  rq (0 ≤ k_3 ∧ k_3 < r14_.length) <|
  (spec_l3Assign (r14_.getD k_3.toNat 0) p7).bind fun r16_ =>
  rq (i64 (k_3 + (1:Int))) <|
  some (.inl (true, (k_3 + (1:Int)), r16_))) (
  rq (i64 (i1 + (1:Int))) <|
  some (.inr (.inl (changed6, (i1 + (1:Int)), p7))))

noncomputable def spec_l3Propagate_l2 (list_ : List D2_) : Bool × Int × (List Int) → Option ((Bool × Int × (List Int)) ⊕ ((Bool × (List Int)) ⊕ (Int × (List Int)))) := fun (changed4, i1, p6) =>
 cond (decide (i1 < (list_.length:Int))) (
  rq (0 ≤ i1 ∧ i1 < list_.length) <|
  (spec_l3Slack (list_.getD i1.toNat ([], 0)) p6).bind fun r13_ =>
  cond (decide (r13_ < (0:Int))) (
   some (.inr (.inr (i1, p6)))) (
   rq (0 ≤ i1 ∧ i1 < list_.length) <|
   (spec_l3Implied (list_.getD i1.toNat ([], 0)) p6).bind fun r14_ =>
   loop (spec_l3Propagate_l3 i1 r14_) (changed4, (0:Int), p6))) (
  some (.inr (.inl (changed4, p6))))

noncomputable def spec_l3Propagate_l1 (list_ : List D2_) : Bool × (List Int) → Option ((Bool × (List Int)) ⊕ (Int × (List Int))) := fun (changed, p4) =>
 cond changed (
  loop (spec_l3Propagate_l2 list_) (false, (0:Int), p4)) (
  some (.inr ((-1:Int), p4)))

noncomputable def spec_l3Propagate (list_ : List D2_) (p : List Int) : Option (Int × (List Int)) :=
 loop (spec_l3Propagate_l1 list_) (true, p)

/-- spec.ClauseOf -/
noncomputable def spec_ClauseOf_l1 (i2 : List Int) : Int × (List D1_) → Option ((Int × (List D1_)) ⊕ (Bool × Int × (List D1_))) := fun (i3, i_0) =>
 cond (decide (i3 ≤ (12:Int))) (
  rq (0 ≤ i3 ∧ i3 < i2.length) <|
  cond ((i2.getD i3.toNat 0) != (0:Int)) (
   rq (0 ≤ i3 ∧ i3 < i2.length) <|
   rq (i_0.length + [((1:Int), (i2.getD i3.toNat 0))].length ≤ bound) <|
   rq (i64 (i3 + (1:Int))) <|
   some (.inl ((i3 + (1:Int)), (i_0 ++ [((1:Int), (i2.getD i3.toNat 0))])))) (
   rq (i64 (i3 + (1:Int))) <|
   some (.inl ((i3 + (1:Int)), i_0)))) (
  some (.inr (true, (1:Int), i_0)))

noncomputable def spec_ClauseOf_j1 : (List Int) → Option (Bool × Int × (List D1_)) := fun i2 =>
 loop (spec_ClauseOf_l1 i2) ((1:Int), ([] : List D1_))

noncomputable def spec_ClauseOf_l2 (a0 : List Int) : Int × (List Int) → Option ((Int × (List Int)) ⊕ (Bool × Int × (List D1_))) := fun (i, i1) =>
 cond (decide (i < (a0.length:Int))) (
  rq (0 ≤ i ∧ i < a0.length) <|
  (spec_l1Lit (a0.getD i.toNat 0)).bind fun r3_ =>
  cond (!r3_) (
   some (.inr (false, (0:Int), ([] : List D1_)))) (
   rq (0 ≤ i ∧ i < a0.length) <|
   (spec_l1Abs (a0.getD i.toNat 0)).bind fun r4_ =>
   rq (0 ≤ r4_ ∧ r4_ < i1.length) <|
   rq (0 ≤ i ∧ i < a0.length) <|
   rq (i64 (0 - (a0.getD i.toNat 0))) <|
   cond ((i1.getD r4_.toNat 0) == (0 - (a0.getD i.toNat 0))) (
    some (.inr (false, (0:Int), ([] : List D1_)))) (
    rq (0 ≤ i ∧ i < a0.length) <|
    rq (0 ≤ r4_ ∧ r4_ < i1.length) <|
    rq (i64 (i + (1:Int))) <|
    some (.inl ((i + (1:Int)), (i1.set r4_.toNat (a0.getD i.toNat 0))))))) (
  up (spec_ClauseOf_j1 i1))

noncomputable def spec_ClauseOf (a0 : List Int) : Option (Bool × Int × (List D1_)) :=
 rq (0 ≤ (13:Int) ∧ (13:Int) ≤ bound ∧ (13:Int) = (13:Int)) <|
 cond (decide ((40:Int) < (a0.length:Int))) (
  some (false, (0:Int), ([] : List D1_))) (
  loop (spec_ClauseOf_l2 a0) ((0:Int), (List.replicate (13:Int).toNat 0)))

/-- spec.l5Learn -/
noncomputable def spec_l5Learn__ss_j1 (s_2 : Int) (o0 : List D2_) (o1 : List D5_) : (List Int) → Option (Int × (List D2_) × (List D5_)) := fun lits1 =>
 (spec_ClauseOf lits1).bind fun r1_ =>
 rq (o0.length + [(r1_.2.2, r1_.2.1)].length ≤ bound) <|
 rq (o1.length + [((7:Int), ((0:Int), ((0:Int), (r1_.2.2, r1_.2.1))))].length ≤ bound) <|
 some (s_2, (o0 ++ [(r1_.2.2, r1_.2.1)]), (o1 ++ [((7:Int), ((0:Int), ((0:Int), (r1_.2.2, r1_.2.1))))]))

noncomputable def spec_l5Learn__ss_l1 (s_2 : Int) (decisions : List Int) (o0 : List D2_) (o1 : List D5_) : Int × (List Int) → Option ((Int × (List Int)) ⊕ (Int × (List D2_) × (List D5_))) := fun (i, lits) =>
 cond (decide (i < (decisions.length:Int))) (
  rq (0 ≤ i ∧ i < decisions.length) <|
  rq (i64 (0 - (decisions.getD i.toNat 0))) <|
  rq (lits.length + [(0 - (decisions.getD i.toNat 0))].length ≤ bound) <|
  rq (i64 (i + (1:Int))) <|
  some (.inl ((i + (1:Int)), (lits ++ [(0 - (decisions.getD i.toNat 0))])))) (
  up (spec_l5Learn__ss_j1 s_2 o0 o1 lits))

noncomputable def spec_l5Learn__ss (s_2 : Int) (decisions : List Int) (o0 : List D2_) (o1 : List D5_) : Option (Int × (List D2_) × (List D5_)) :=
 loop (spec_l5Learn__ss_l1 s_2 decisions o0 o1) ((0:Int), ([] : List Int))

/-- spec.l5Free -/
noncomputable def spec_l5Free_l1 (p : List Int) : Int → Option (Int ⊕ Int) := fun i =>
 cond (decide (i < (p.length:Int))) (
  rq (0 ≤ i ∧ i < p.length) <|
  cond ((p.getD i.toNat 0) == (0:Int)) (
   rq (i64 (i + (1:Int))) <|
   some (.inr (i + (1:Int)))) (
   rq (i64 (i + (1:Int))) <|
   some (.inl (i + (1:Int))))) (
  some (.inr (0:Int)))

noncomputable def spec_l5Free (p : List Int) : Option Int :=
 loop (spec_l5Free_l1 p) (0:Int)

/-- spec.l5Search -/
noncomputable def spec_l5Search__ss_j2 (a0_2 : Int) (o0 : List D2_) (o1 : List D5_) : (List Bool) → Option (Int × Int × (List Bool) × (List D2_) × (List D5_)) := fun i5 =>
 some ((1:Int), (a0_2 - (1:Int)), i5, o0, o1)

noncomputable def spec_l5Search__ss_l1 (a0_2 : Int) (o0 : List D2_) (o1 : List D5_) (r3_ : Int × (List Int)) : Int × (List Bool) → Option ((Int × (List Bool)) ⊕ (Int × Int × (List Bool) × (List D2_) × (List D5_))) := fun (i3, i4) =>
 cond (decide (i3 < (r3_.2.length:Int))) (
  rq (0 ≤ i3 ∧ i3 < r3_.2.length) <|
  rq (i4.length + [(decide ((0:Int) < (r3_.2.getD i3.toNat 0)))].length ≤ bound) <|
  rq (i64 (i3 + (1:Int))) <|
  some (.inl ((i3 + (1:Int)), (i4 ++ [(decide ((0:Int) < (r3_.2.getD i3.toNat 0)))])))) (
  up (spec_l5Search__ss_j2 a0_2 o0 o1 i4))

noncomputable def spec_l5Search__ss_j3 (a1 : List Int) : Int × (List D2_) × (List D5_) → Option (Int × Int × (List Bool) × (List D2_) × (List D5_)) := fun (i_23, i_03, i_13) =>
 cond (decide ((1000:Int) ≤ (i_13.length:Int))) (
  some ((0:Int), i_23, ([] : List Bool), i_03, i_13)) (
  (spec_l5Learn__ss i_23 a1 i_03 i_13).bind fun r9_ =>
  some ((2:Int), r9_.1, ([] : List Bool), r9_.2.1, r9_.2.2))

noncomputable def spec_l5Search__ss_j4 (i6 : Int) : Int × Int × (List Bool) × (List D2_) × (List D5_) → Option ((Int × Int × (List D2_) × (List D5_)) ⊕ (Int × Int × (List Bool) × (List D2_) × (List D5_))) := fun (i9, i_22, i10, i_02, i_12) =>
 cond (i9 != (2:Int)) (
  some (.inr (i9, i_22, i10, i_02, i_12))) (
  rq (i64 (i6 + (1:Int))) <|
  some (.inl ((i6 + (1:Int)), i_22, i_02, i_12)))

noncomputable def spec_l5Search__ss_l2 (a1 : List Int) (r5_ : Int) (rec_ : Int → (List Int) → (List D2_) → (List D5_) → Option (Int × Int × (List Bool) × (List D2_) × (List D5_))) : Int × Int × (List D2_) × (List D5_) → Option ((Int × Int × (List D2_) × (List D5_)) ⊕ (Int × Int × (List Bool) × (List D2_) × (List D5_))) := fun (i6, i_21, i_01, i_11) =>
 cond (decide (i6 < ([r5_, (0 - r5_)].length:Int))) (
  rq (0 ≤ i6 ∧ i6 < [r5_, (0 - r5_)].length) <|
  rq (([] : List Int).length + a1.length ≤ bound) <|
  rq ((([] : List Int) ++ a1).length + [([r5_, (0 - r5_)].getD i6.toNat 0)].length ≤ bound) <|
  (rec_ i_21 ((([] : List Int) ++ a1) ++ [([r5_, (0 - r5_)].getD i6.toNat 0)]) i_01 i_11).bind fun r8_ =>
  spec_l5Search__ss_j4 i6 (r8_.1, r8_.2.1, r8_.2.2.1, r8_.2.2.2.1, r8_.2.2.2.2)) (
  up (spec_l5Search__ss_j3 a1 (i_21, i_01, i_11)))

noncomputable def spec_l5Search__ss_j1 (a0_2 : Int) (a1 : List Int) (o0 : List D2_) (o1 : List D5_) (rec_ : Int → (List Int) → (List D2_) → (List D5_) → Option (Int × Int × (List Bool) × (List D2_) × (List D5_))) : (List Int) → Option (Int × Int × (List Bool) × (List D2_) × (List D5_)) := fun i2 =>
 (spec_l3Propagate o0 i2).bind fun r3_ =>
 cond (decide ((0:Int) ≤ r3_.1)) (
  (spec_l5Learn__ss (a0_2 - (1:Int)) a1 o0 o1).bind fun r4_ =>
  some ((2:Int), r4_.1, ([] : List Bool), r4_.2.1, r4_.2.2)) (
  (spec_l5Free r3_.2).bind fun r5_ =>
  cond (r5_ == (0:Int)) (
   loop (spec_l5Search__ss_l1 a0_2 o0 o1 r3_) ((0:Int), ([] : List Bool))) (
   rq (i64 (0 - r5_)) <|
   loop (spec_l5Search__ss_l2 a1 r5_ rec_) ((0:Int), (a0_2 - (1:Int)), o0, o1)))

noncomputable def spec_l5Search__ss_l3 (a0_2 : Int) (a1 : List Int) (o0 : List D2_) (o1 : List D5_) (rec_ : Int → (List Int) → (List D2_) → (List D5_) → Option (Int × Int × (List Bool) × (List D2_) × (List D5_))) : Int × (List Int) → Option ((Int × (List Int)) ⊕ (Int × Int × (List Bool) × (List D2_) × (List D5_))) := fun (i, i1) =>
 cond (decide (i < (a1.length:Int))) (
  rq (0 ≤ i ∧ i < a1.length) <|
  (spec_l3Assign (a1.getD i.toNat 0) i1).bind fun r2_ =>
  rq (i64 (i + (1:Int))) <|
  some (.inl ((i + (1:Int)), r2_))) (
  up (spec_l5Search__ss_j1 a0_2 a1 o0 o1 rec_ i1))

noncomputable def spec_l5Search__ss_rec (rec_ : Int → (List Int) → (List D2_) → (List D5_) → Option (Int × Int × (List Bool) × (List D2_) × (List D5_))) (a0_2 : Int) (a1 : List Int) (o0 : List D2_) (o1 : List D5_) : Option (Int × Int × (List Bool) × (List D2_) × (List D5_)) :=
 cond (a0_2 == (0:Int)) (
  some ((0:Int), a0_2, ([] : List Bool), o0, o1)) (
  cond (decide ((1000:Int) ≤ (o1.length:Int))) (
   some ((0:Int), a0_2, ([] : List Bool), o0, o1)) (
   rq (i64 (a0_2 - (1:Int))) <|
   rq (0 ≤ (12:Int) ∧ (12:Int) ≤ bound ∧ (12:Int) = (12:Int)) <|
   loop (spec_l5Search__ss_l3 a0_2 a1 o0 o1 rec_) ((0:Int), (List.replicate (12:Int).toNat 0))))

/-- So many calls within calls. -/
noncomputable def spec_l5Search__ss : Nat → Int → (List Int) → (List D2_) → (List D5_) → Option (Int × Int × (List Bool) × (List D2_) × (List D5_))
  | 0 => fun _ _ _ _ => none
  | n_ + 1 => spec_l5Search__ss_rec (spec_l5Search__ss n_)

/-- spec.l5Search -/
noncomputable def spec_l5Search__s_j2 (a0_2 : Int) (o0 : List D2_) : (List Bool) → Option (Int × Int × (List Bool) × (List D2_) × (List D5_)) := fun i5 =>
 some ((1:Int), (a0_2 - (1:Int)), i5, o0, ([] : List D5_))

noncomputable def spec_l5Search__s_l1 (a0_2 : Int) (o0 : List D2_) (r3_ : Int × (List Int)) : Int × (List Bool) → Option ((Int × (List Bool)) ⊕ (Int × Int × (List Bool) × (List D2_) × (List D5_))) := fun (i3, i4) =>
 cond (decide (i3 < (r3_.2.length:Int))) (
  rq (0 ≤ i3 ∧ i3 < r3_.2.length) <|
  rq (i4.length + [(decide ((0:Int) < (r3_.2.getD i3.toNat 0)))].length ≤ bound) <|
  rq (i64 (i3 + (1:Int))) <|
  some (.inl ((i3 + (1:Int)), (i4 ++ [(decide ((0:Int) < (r3_.2.getD i3.toNat 0)))])))) (
  up (spec_l5Search__s_j2 a0_2 o0 i4))

noncomputable def spec_l5Search__s_j3 (a1 : List Int) : Int × (List D2_) × (List D5_) → Option (Int × Int × (List Bool) × (List D2_) × (List D5_)) := fun (i_23, i_03, i_13) =>
 cond (decide ((1000:Int) ≤ (i_13.length:Int))) (
  some ((0:Int), i_23, ([] : List Bool), i_03, i_13)) (
  (spec_l5Learn__ss i_23 a1 i_03 i_13).bind fun r9_ =>
  some ((2:Int), r9_.1, ([] : List Bool), r9_.2.1, r9_.2.2))

noncomputable def spec_l5Search__s_j4 (i6 : Int) : Int × Int × (List Bool) × (List D2_) × (List D5_) → Option ((Int × Int × (List D2_) × (List D5_)) ⊕ (Int × Int × (List Bool) × (List D2_) × (List D5_))) := fun (i9, i_22, i10, i_02, i_12) =>
 cond (i9 != (2:Int)) (
  some (.inr (i9, i_22, i10, i_02, i_12))) (
  rq (i64 (i6 + (1:Int))) <|
  some (.inl ((i6 + (1:Int)), i_22, i_02, i_12)))

noncomputable def spec_l5Search__s_l2 (a1 : List Int) (r5_ : Int) : Int × Int × (List D2_) × (List D5_) → Option ((Int × Int × (List D2_) × (List D5_)) ⊕ (Int × Int × (List Bool) × (List D2_) × (List D5_))) := fun (i6, i_21, i_01, i_11) =>
 cond (decide (i6 < ([r5_, (0 - r5_)].length:Int))) (
  rq (0 ≤ i6 ∧ i6 < [r5_, (0 - r5_)].length) <|
  rq (([] : List Int).length + a1.length ≤ bound) <|
  rq ((([] : List Int) ++ a1).length + [([r5_, (0 - r5_)].getD i6.toNat 0)].length ≤ bound) <|
  (spec_l5Search__ss 64 i_21 ((([] : List Int) ++ a1) ++ [([r5_, (0 - r5_)].getD i6.toNat 0)]) i_01 i_11).bind fun r8_ =>
  spec_l5Search__s_j4 i6 (r8_.1, r8_.2.1, r8_.2.2.1, r8_.2.2.2.1, r8_.2.2.2.2)) (
  up (spec_l5Search__s_j3 a1 (i_21, i_01, i_11)))

noncomputable def spec_l5Search__s_j1 (a0_2 : Int) (a1 : List Int) (o0 : List D2_) : (List Int) → Option (Int × Int × (List Bool) × (List D2_) × (List D5_)) := fun i2 =>
 (spec_l3Propagate o0 i2).bind fun r3_ =>
 cond (decide ((0:Int) ≤ r3_.1)) (
  (spec_l5Learn__ss (a0_2 - (1:Int)) a1 o0 ([] : List D5_)).bind fun r4_ =>
  some ((2:Int), r4_.1, ([] : List Bool), r4_.2.1, r4_.2.2)) (
  (spec_l5Free r3_.2).bind fun r5_ =>
  cond (r5_ == (0:Int)) (
   loop (spec_l5Search__s_l1 a0_2 o0 r3_) ((0:Int), ([] : List Bool))) (
   rq (i64 (0 - r5_)) <|
   loop (spec_l5Search__s_l2 a1 r5_) ((0:Int), (a0_2 - (1:Int)), o0, ([] : List D5_))))

noncomputable def spec_l5Search__s_l3 (a0_2 : Int) (a1 : List Int) (o0 : List D2_) : Int × (List Int) → Option ((Int × (List Int)) ⊕ (Int × Int × (List Bool) × (List D2_) × (List D5_))) := fun (i, i1) =>
 cond (decide (i < (a1.length:Int))) (
  rq (0 ≤ i ∧ i < a1.length) <|
  (spec_l3Assign (a1.getD i.toNat 0) i1).bind fun r2_ =>
  rq (i64 (i + (1:Int))) <|
  some (.inl ((i + (1:Int)), r2_))) (
  up (spec_l5Search__s_j1 a0_2 a1 o0 i1))

noncomputable def spec_l5Search__s (a0_2 : Int) (a1 : List Int) (o0 : List D2_) : Option (Int × Int × (List Bool) × (List D2_) × (List D5_)) :=
 cond (a0_2 == (0:Int)) (
  some ((0:Int), a0_2, ([] : List Bool), o0, ([] : List D5_))) (
  cond (decide ((1000:Int) ≤ (0:Int))) (
   some ((0:Int), a0_2, ([] : List Bool), o0, ([] : List D5_))) (
   rq (i64 (a0_2 - (1:Int))) <|
   rq (0 ≤ (12:Int) ∧ (12:Int) ≤ bound ∧ (12:Int) = (12:Int)) <|
   loop (spec_l5Search__s_l3 a0_2 a1 o0) ((0:Int), (List.replicate (12:Int).toNat 0))))

/-- spec.SolveProblem -/
noncomputable def spec_SolveProblem_j1 (r2_ : Int × Int × (List Bool) × (List D2_) × (List D5_)) : (List D5_) → Option (Int × (List Bool) × (List D5_)) := fun i2 =>
 some (r2_.1, ([] : List Bool), i2)

noncomputable def spec_SolveProblem_l1 (r2_ : Int × Int × (List Bool) × (List D2_) × (List D5_)) : Int × (List D5_) → Option ((Int × (List D5_)) ⊕ (Int × (List Bool) × (List D5_))) := fun (i, i1) =>
 cond (decide (i < (r2_.2.2.2.2.length:Int))) (
  rq (0 ≤ i ∧ i < r2_.2.2.2.2.length) <|
  (spec_l1Copy (r2_.2.2.2.2.getD i.toNat (0, (0, (0, ([], 0))))).2.2.2).bind fun r4_ =>
  rq (i1.length + [((r2_.2.2.2.2.getD i.toNat (0, (0, (0, ([], 0))))).1, ((r2_.2.2.2.2.getD i.toNat (0, (0, (0, ([], 0))))).2.1, ((r2_.2.2.2.2.getD i.toNat (0, (0, (0, ([], 0))))).2.2.1, (r4_.2, r4_.1))))].length ≤ bound) <|
  rq (i64 (i + (1:Int))) <|
  some (.inl ((i + (1:Int)), (i1 ++ [((r2_.2.2.2.2.getD i.toNat (0, (0, (0, ([], 0))))).1, ((r2_.2.2.2.2.getD i.toNat (0, (0, (0, ([], 0))))).2.1, ((r2_.2.2.2.2.getD i.toNat (0, (0, (0, ([], 0))))).2.2.1, (r4_.2, r4_.1))))])))) (
  up (spec_SolveProblem_j1 r2_ i1))

noncomputable def spec_SolveProblem (a0 : List D2_) (a1 : Int) : Option (Int × (List Bool) × (List D5_)) :=
 (spec_ProblemValid a0).bind fun r1_ =>
 cond (!r1_) (
  some ((3:Int), ([] : List Bool), ([] : List D5_))) (
  cond (decide (a1 < (0:Int))) (
   some ((3:Int), ([] : List Bool), ([] : List D5_))) (
   cond (decide ((2000:Int) < a1)) (
    some ((3:Int), ([] : List Bool), ([] : List D5_))) (
    rq (([] : List D2_).length + a0.length ≤ bound) <|
    (spec_l5Search__s a1 ([] : List Int) (([] : List D2_) ++ a0)).bind fun r2_ =>
    cond (r2_.1 != (2:Int)) (
     some (r2_.1, r2_.2.2.1, ([] : List D5_))) (
     loop (spec_SolveProblem_l1 r2_) ((0:Int), ([] : List D5_))))))

/-- spec.l12Clause -/
noncomputable def spec_l12Clause_j1 (c_ : (List D1_) × Int) : (List Int) → Option (Bool × (List Int)) := fun out1 =>
 (spec_ConstraintValid c_).bind fun r2_ =>
 cond r2_ (
  some ((c_.2 == (1:Int)), out1)) (
  some (false, out1))

noncomputable def spec_l12Clause_l1 (c_ : (List D1_) × Int) : Int × (List Int) → Option ((Int × (List Int)) ⊕ (Bool × (List Int))) := fun (i, out) =>
 cond (decide (i < (c_.1.length:Int))) (
  rq (0 ≤ i ∧ i < c_.1.length) <|
  cond ((c_.1.getD i.toNat (0, 0)).1 != (1:Int)) (
   some (.inr (false, ([] : List Int)))) (
   rq (0 ≤ i ∧ i < c_.1.length) <|
   rq (out.length + [(c_.1.getD i.toNat (0, 0)).2].length ≤ bound) <|
   rq (i64 (i + (1:Int))) <|
   some (.inl ((i + (1:Int)), (out ++ [(c_.1.getD i.toNat (0, 0)).2]))))) (
  up (spec_l12Clause_j1 c_ out))

noncomputable def spec_l12Clause (c_ : (List D1_) × Int) : Option (Bool × (List Int)) :=
 loop (spec_l12Clause_l1 c_) ((0:Int), ([] : List Int))

/-- spec.l12Lift -/
noncomputable def spec_l12Lift_j1 : (List Int) → Option (Bool × Int × Int × Int × Int × (List D1_)) := fun lits1 =>
 (spec_ClauseOf lits1).bind fun r2_ =>
 cond (!r2_.1) (
  some (false, (0:Int), (0:Int), (0:Int), (0:Int), ([] : List D1_))) (
  some (true, (7:Int), (0:Int), (0:Int), r2_.2.1, r2_.2.2))

noncomputable def spec_l12Lift_l1 (cube : List Int) : Int × (List Int) → Option ((Int × (List Int)) ⊕ (Bool × Int × Int × Int × Int × (List D1_))) := fun (i, lits) =>
 cond (decide (i < (cube.length:Int))) (
  rq (0 ≤ i ∧ i < cube.length) <|
  rq (i64 (0 - (cube.getD i.toNat 0))) <|
  rq (lits.length + [(0 - (cube.getD i.toNat 0))].length ≤ bound) <|
  rq (i64 (i + (1:Int))) <|
  some (.inl ((i + (1:Int)), (lits ++ [(0 - (cube.getD i.toNat 0))])))) (
  up (spec_l12Lift_j1 lits))

noncomputable def spec_l12Lift (s_ : Int × Int × Int × (List D1_) × Int) (cube : List Int) : Option (Bool × Int × Int × Int × Int × (List D1_)) :=
 (spec_l12Clause s_.2.2.2).bind fun r1_ =>
 cond (s_.1 != (7:Int)) (
  some (false, (0:Int), (0:Int), (0:Int), (0:Int), ([] : List D1_))) (
  cond (s_.2.1 != (0:Int)) (
   some (false, (0:Int), (0:Int), (0:Int), (0:Int), ([] : List D1_))) (
   cond (s_.2.2.1 != (0:Int)) (
    some (false, (0:Int), (0:Int), (0:Int), (0:Int), ([] : List D1_))) (
    cond (!r1_.1) (
     some (false, (0:Int), (0:Int), (0:Int), (0:Int), ([] : List D1_))) (
     loop (spec_l12Lift_l1 cube) ((0:Int), r1_.2)))))

/-- spec.l12Join -/
noncomputable def spec_l12Join_l2 (n : Int) : Int × (List D5_) × (List (List Int)) → Option ((Int × (List D5_) × (List (List Int))) ⊕ ((Int × (List D5_)) ⊕ (List D5_))) := fun (k_1, out3, cubes1) =>
 cond (decide (k_1 < (cubes1.length:Int))) (
  rq (0 ≤ k_1 ∧ k_1 < cubes1.length) <|
  (spec_l12Lift ((7:Int), ((0:Int), ((0:Int), (([] : List D1_), (1:Int))))) (cubes1.getD k_1.toNat [])).bind fun r6_ =>
  rq (out3.length + [(r6_.2.1, (r6_.2.2.1, (r6_.2.2.2.1, (r6_.2.2.2.2.2, r6_.2.2.2.2.1))))].length ≤ bound) <|
  rq (i64 (k_1 + (1:Int))) <|
  some (.inl ((k_1 + (1:Int)), (out3 ++ [(r6_.2.1, (r6_.2.2.1, (r6_.2.2.2.1, (r6_.2.2.2.2.2, r6_.2.2.2.2.1))))]), (cubes1.set k_1.toNat (cubes1.getD k_1.toNat []))))) (
  rq (i64 (n - (1:Int))) <|
  some (.inr (.inl ((n - (1:Int)), out3))))

noncomputable def spec_l12Join_l1 (vars : List Int) : Int × (List D5_) → Option ((Int × (List D5_)) ⊕ (List D5_)) := fun (n, out2) =>
 cond (decide ((0:Int) ≤ n)) (
  rq (0 ≤ n ∧ n ≤ vars.length) <|
  (spec_l12Cubes (vars.take n.toNat)).bind fun r4_ =>
  loop (spec_l12Join_l2 n) ((0:Int), out2, r4_)) (
  some (.inr out2))

noncomputable def spec_l12Join (vars : List Int) (out : List D5_) : Option (List D5_) :=
 rq (i64 ((vars.length:Int) - (1:Int))) <|
 loop (spec_l12Join_l1 vars) (((vars.length:Int) - (1:Int)), out)

/-- spec.MergeProofs -/
noncomputable def spec_MergeProofs_j1 (a0 : List Int) : (List D5_) → Option (Bool × (List D5_)) := fun i13 =>
 (spec_l12Join a0 i13).bind fun r8_ =>
 cond (decide ((1000:Int) < (r8_.length:Int))) (
  some (false, ([] : List D5_))) (
  some (true, r8_))

noncomputable def spec_MergeProofs_j2 (a1 : List (List D5_)) (i : Int) (i8 : Int) (i10 : List (List Int)) (i11 : List D5_) : Bool × Int × Int × Int × Int × (List D1_) → Option ((Int × (List (List Int)) × (List D5_)) ⊕ ((Int × (List (List Int)) × (List D5_)) ⊕ (Bool × (List D5_)))) := fun (i12, i_03, i_13, i_23, i_43, i_33) =>
 rq (0 ≤ i ∧ i < a1.length) <|
 cond (decide ((1000:Int) < ((a1.getD i.toNat []).length:Int))) (
  some (.inr (.inr (false, ([] : List D5_))))) (
  cond (decide ((1000:Int) < (i11.length:Int))) (
   some (.inr (.inr (false, ([] : List D5_))))) (
   cond i12 (
    rq (i11.length + [(i_03, (i_13, (i_23, (i_33, i_43))))].length ≤ bound) <|
    rq (i64 (i8 + (1:Int))) <|
    some (.inl ((i8 + (1:Int)), (i10.set i.toNat (i10.getD i.toNat [])), (i11 ++ [(i_03, (i_13, (i_23, (i_33, i_43))))])))) (
    rq (i64 (i8 + (1:Int))) <|
    some (.inl ((i8 + (1:Int)), (i10.set i.toNat (i10.getD i.toNat [])), i11)))))

noncomputable def spec_MergeProofs_l2 (a1 : List (List D5_)) (i : Int) : Int × (List (List Int)) × (List D5_) → Option ((Int × (List (List Int)) × (List D5_)) ⊕ ((Int × (List (List Int)) × (List D5_)) ⊕ (Bool × (List D5_)))) := fun (i8, i10, i11) =>
 rq (0 ≤ i ∧ i < a1.length) <|
 cond (decide (i8 < ((a1.getD i.toNat []).length:Int))) (
  rq (0 ≤ i ∧ i < a1.length) <|
  rq (0 ≤ i8 ∧ i8 < (a1.getD i.toNat []).length) <|
  rq (0 ≤ i ∧ i < i10.length) <|
  (spec_l12Lift ((a1.getD i.toNat []).getD i8.toNat (0, (0, (0, ([], 0))))) (i10.getD i.toNat [])).bind fun r7_ =>
  spec_MergeProofs_j2 a1 i i8 i10 i11 (r7_.1, r7_.2.1, r7_.2.2.1, r7_.2.2.2.1, r7_.2.2.2.2.1, r7_.2.2.2.2.2)) (
  rq (i64 (i + (1:Int))) <|
  some (.inr (.inl ((i + (1:Int)), i10, i11))))

noncomputable def spec_MergeProofs_l1 (a0 : List Int) (a1 : List (List D5_)) : Int × (List (List Int)) × (List D5_) → Option ((Int × (List (List Int)) × (List D5_)) ⊕ (Bool × (List D5_))) := fun (i, i6, i7) =>
 cond (decide (i < (i6.length:Int))) (
  loop (spec_MergeProofs_l2 a1 i) ((0:Int), i6, i7)) (
  up (spec_MergeProofs_j1 a0 i7))

noncomputable def spec_MergeProofs (a0 : List Int) (a1 : List (List D5_)) : Option (Bool × (List D5_)) :=
 (spec_l12Vars a0).bind fun r1_ =>
 cond (!r1_) (
  some (false, ([] : List D5_))) (
  (spec_l12Cubes a0).bind fun r2_ =>
  cond ((a1.length:Int) != (r2_.length:Int)) (
   some (false, ([] : List D5_))) (
   loop (spec_MergeProofs_l1 a0 a1) ((0:Int), r2_, ([] : List D5_))))

/-- spec.SolveCubes -/
noncomputable def spec_SolveCubes_j1 (a1 : List Int) : (List (List D5_)) → Option (Int × (List Bool) × (List D5_)) := fun i3 =>
 (spec_MergeProofs a1 i3).bind fun r8_ =>
 cond (!r8_.1) (
  some ((0:Int), ([] : List Bool), ([] : List D5_))) (
  some ((2:Int), ([] : List Bool), r8_.2))

noncomputable def spec_SolveCubes_l1 (a0 : List D2_) (a1 : List Int) (a2 : Int) : Int × (List (List Int)) × (List (List D5_)) → Option ((Int × (List (List Int)) × (List (List D5_))) ⊕ (Int × (List Bool) × (List D5_))) := fun (i, i1, i2) =>
 cond (decide (i < (i1.length:Int))) (
  rq (0 ≤ i ∧ i < i1.length) <|
  (spec_l12Under a0 (i1.getD i.toNat [])).bind fun r6_ =>
  (spec_SolveProblem r6_ a2).bind fun r7_ =>
  cond (r7_.1 != (2:Int)) (
   some (.inr (r7_.1, r7_.2.1, ([] : List D5_)))) (
   rq (i2.length + [r7_.2.2].length ≤ bound) <|
   rq (i64 (i + (1:Int))) <|
   some (.inl ((i + (1:Int)), (i1.set i.toNat (i1.getD i.toNat [])), (i2 ++ [r7_.2.2]))))) (
  up (spec_SolveCubes_j1 a1 i2))

noncomputable def spec_SolveCubes (a0 : List D2_) (a1 : List Int) (a2 : Int) : Option (Int × (List Bool) × (List D5_)) :=
 (spec_ProblemValid a0).bind fun r1_ =>
 cond (!r1_) (
  some ((3:Int), ([] : List Bool), ([] : List D5_))) (
  (spec_l12Vars a1).bind fun r2_ =>
  cond (!r2_) (
   some ((3:Int), ([] : List Bool), ([] : List D5_))) (
   cond (decide (a2 < (0:Int))) (
    some ((3:Int), ([] : List Bool), ([] : List D5_))) (
    cond (decide ((2000:Int) < a2)) (
     some ((3:Int), ([] : List Bool), ([] : List D5_))) (
     rq (i64 ((a0.length:Int) + (a1.length:Int))) <|
     cond (decide ((400:Int) < ((a0.length:Int) + (a1.length:Int)))) (
      some ((3:Int), ([] : List Bool), ([] : List D5_))) (
      (spec_l12Cubes a1).bind fun r3_ =>
      loop (spec_SolveCubes_l1 a0 a1 a2) ((0:Int), r3_, ([] : List (List D5_))))))))

/-- impl.within -/
noncomputable def impl_within (n : Int) (low : Int) (high : Int) : Option Bool :=
 cond (decide (low ≤ n)) (
  some (decide (n ≤ high))) (
  some false)

/-- impl.areVars -/
noncomputable def impl_areVars_l1 (vars : List Int) : Int → Option (Int ⊕ Bool) := fun i =>
 cond (decide (i < (vars.length:Int))) (
  rq (0 ≤ i ∧ i < vars.length) <|
  (impl_within (vars.getD i.toNat 0) (1:Int) (12:Int)).bind fun r1_ =>
  cond (!r1_) (
   some (.inr false)) (
   cond (decide ((0:Int) < i)) (
    rq (i64 (i - (1:Int))) <|
    rq (0 ≤ (i - (1:Int)) ∧ (i - (1:Int)) < vars.length) <|
    cond (decide ((vars.getD i.toNat 0) ≤ (vars.getD (i - (1:Int)).toNat 0))) (
     some (.inr false)) (
     rq (i64 (i + (1:Int))) <|
     some (.inl (i + (1:Int))))) (
    rq (i64 (i + (1:Int))) <|
    some (.inl (i + (1:Int)))))) (
  some (.inr true))

noncomputable def impl_areVars (vars : List Int) : Option Bool :=
 loop (impl_areVars_l1 vars) (0:Int)

/-- slices.Clone[[]int,int] -/
noncomputable def slices_Clone_int (s_ : List Int) : Option (List Int) :=
 nt (s_ = []) (
  some ([] : List Int)) (
  rq (([] : List Int).length + s_.length ≤ bound) <|
  some (([] : List Int) ++ s_))

/-- impl.cubesOf -/
noncomputable def impl_cubesOf_l2 (vars : List Int) (i : Int) (out : List (List Int)) : Int × (List (List Int)) × (List (List Int)) → Option ((Int × (List (List Int)) × (List (List Int))) ⊕ ((Int × (List (List Int))) ⊕ (List (List Int)))) := fun (i3, next1, i4) =>
 cond (decide (i3 < (out.length:Int))) (
  rq (0 ≤ i3 ∧ i3 < i4.length) <|
  (slices_Clone_int (i4.getD i3.toNat [])).bind fun r7_ =>
  rq (r7_.length + [(vars.getD i.toNat 0)].length ≤ bound) <|
  (slices_Clone_int (i4.getD i3.toNat [])).bind fun r8_ =>
  rq (i64 (0 - (vars.getD i.toNat 0))) <|
  rq (r8_.length + [(0 - (vars.getD i.toNat 0))].length ≤ bound) <|
  rq (next1.length + [(r7_ ++ [(vars.getD i.toNat 0)]), (r8_ ++ [(0 - (vars.getD i.toNat 0))])].length ≤ bound) <|
  rq (i64 (i3 + (1:Int))) <|
  some (.inl ((i3 + (1:Int)), (next1 ++ [(r7_ ++ [(vars.getD i.toNat 0)]), (r8_ ++ [(0 - (vars.getD i.toNat 0))])]), (i4.set i3.toNat (i4.getD i3.toNat []))))) (
  rq (i64 (i + (1:Int))) <|
  some (.inr (.inl ((i + (1:Int)), next1))))

noncomputable def impl_cubesOf_l1 (vars : List Int) : Int × (List (List Int)) → Option ((Int × (List (List Int))) ⊕ (List (List Int))) := fun (i, out) =>
 cond (decide (i < (vars.length:Int))) (
  rq (0 ≤ i ∧ i < vars.length) <|
  loop (impl_cubesOf_l2 vars i out) ((0:Int), ([] : List (List Int)), out)) (
  some (.inr out))

noncomputable def impl_cubesOf (vars : List Int) : Option (List (List Int)) :=
 loop (impl_cubesOf_l1 vars) ((0:Int), [([] : List Int)])

/-- impl.SplitCubes -/
noncomputable def impl_SplitCubes (vars : List Int) : Option (Bool × (List (List Int))) :=
 (impl_areVars vars).bind fun r1_ =>
 cond (!r1_) (
  some (false, ([] : List (List Int)))) (
  cond (decide ((4:Int) < (vars.length:Int))) (
   some (false, ([] : List (List Int)))) (
   (impl_cubesOf vars).bind fun r2_ =>
   some (true, r2_)))

/-- impl.isLiteral -/
noncomputable def impl_isLiteral (l : Int) : Option Bool :=
 cond (l != (0:Int)) (
  (impl_within l (-12:Int) (12:Int)).bind fun r1_ =>
  some r1_) (
  some false)

/-- impl.variableOf -/
noncomputable def impl_variableOf (l : Int) : Option Int :=
 rq (i64 (0 - l)) <|
 some (max l (0 - l))

/-- impl.ConstraintValid -/
noncomputable def impl_ConstraintValid_l1 (c_ : (List D1_) × Int) : Int × Int → Option ((Int × Int) ⊕ Bool) := fun (before, i) =>
 cond (decide (i < (c_.1.length:Int))) (
  rq (0 ≤ i ∧ i < c_.1.length) <|
  (impl_isLiteral (c_.1.getD i.toNat (0, 0)).2).bind fun r1_ =>
  cond (!r1_) (
   some (.inr false)) (
   (impl_variableOf (c_.1.getD i.toNat (0, 0)).2).bind fun r2_ =>
   cond (decide (r2_ ≤ before)) (
    some (.inr false)) (
    (impl_within (c_.1.getD i.toNat (0, 0)).1 (1:Int) (1000:Int)).bind fun r3_ =>
    cond (!r3_) (
     some (.inr false)) (
     (impl_variableOf (c_.1.getD i.toNat (0, 0)).2).bind fun r4_ =>
     rq (i64 (i + (1:Int))) <|
     some (.inl (r4_, (i + (1:Int)))))))) (
  (impl_within c_.2 (0:Int) (20000:Int)).bind fun r5_ =>
  some (.inr r5_))

noncomputable def impl_ConstraintValid (c_ : (List D1_) × Int) : Option Bool :=
 loop (impl_ConstraintValid_l1 c_) ((0:Int), (0:Int))

/-- impl.allValid$1 -/
noncomputable def impl_allValid_1 (c_ : (List D1_) × Int) : Option Bool :=
 (impl_ConstraintValid c_).bind fun r1_ =>
 some (!r1_)

/-- slices.IndexFunc[[]impl.Constraint,impl.Constraint] -/
noncomputable def slices_IndexFunc_impl_Constraint__impl_allValid_1_l1 (s_ : List D2_) : Int → Option (Int ⊕ Int) := fun i =>
 cond (decide (i < (s_.length:Int))) (
  rq (0 ≤ i ∧ i < s_.length) <|
  (impl_allValid_1 (s_.getD i.toNat ([], 0))).bind fun r1_ =>
  cond r1_ (
   some (.inr i)) (
   rq (i64 (i + (1:Int))) <|
   some (.inl (i + (1:Int))))) (
  some (.inr (-1:Int)))

noncomputable def slices_IndexFunc_impl_Constraint__impl_allValid_1 (s_ : List D2_) : Option Int :=
 loop (slices_IndexFunc_impl_Constraint__impl_allValid_1_l1 s_) (0:Int)

/-- slices.ContainsFunc[[]impl.Constraint,impl.Constraint] -/
noncomputable def slices_ContainsFunc_impl_Constraint__impl_allValid_1 (s_ : List D2_) : Option Bool :=
 (slices_IndexFunc_impl_Constraint__impl_allValid_1 s_).bind fun r1_ =>
 some (decide ((0:Int) ≤ r1_))

/-- impl.allValid -/
noncomputable def impl_allValid (list_ : List D2_) : Option Bool :=
 (slices_ContainsFunc_impl_Constraint__impl_allValid_1 list_).bind fun r1_ =>
 some (!r1_)

/-- impl.ProblemValid -/
noncomputable def impl_ProblemValid (list_ : List D2_) : Option Bool :=
 cond (decide ((list_.length:Int) ≤ (400:Int))) (
  (impl_allValid list_).bind fun r1_ =>
  some r1_) (
  some false)

/-- impl.isFuel -/
noncomputable def impl_isFuel (fuel : Int) : Option Bool :=
 (impl_within fuel (0:Int) (2000:Int)).bind fun r1_ =>
 some r1_

/-- impl.isCube -/
noncomputable def impl_isCube_l1 (cube : List Int) : Int → Option (Int ⊕ Bool) := fun i =>
 cond (decide (i < (cube.length:Int))) (
  rq (0 ≤ i ∧ i < cube.length) <|
  (impl_isLiteral (cube.getD i.toNat 0)).bind fun r1_ =>
  cond (!r1_) (
   some (.inr false)) (
   cond (decide ((0:Int) < i)) (
    rq (i64 (i - (1:Int))) <|
    rq (0 ≤ (i - (1:Int)) ∧ (i - (1:Int)) < cube.length) <|
    (impl_variableOf (cube.getD (i - (1:Int)).toNat 0)).bind fun r2_ =>
    (impl_variableOf (cube.getD i.toNat 0)).bind fun r3_ =>
    cond (decide (r3_ ≤ r2_)) (
     some (.inr false)) (
     rq (i64 (i + (1:Int))) <|
     some (.inl (i + (1:Int))))) (
    rq (i64 (i + (1:Int))) <|
    some (.inl (i + (1:Int)))))) (
  some (.inr (decide ((cube.length:Int) ≤ (4:Int)))))

noncomputable def impl_isCube (cube : List Int) : Option Bool :=
 loop (impl_isCube_l1 cube) (0:Int)

/-- slices.Clone[[]impl.Term,impl.Term] -/
noncomputable def slices_Clone_impl_Term (s_ : List D1_) : Option (List D1_) :=
 nt (s_ = []) (
  some ([] : List D1_)) (
  rq (([] : List D1_).length + s_.length ≤ bound) <|
  some (([] : List D1_) ++ s_))

/-- (impl.Constraint).own -/
noncomputable def impl_Constraint_own (c_ : (List D1_) × Int) : Option (Int × (List D1_)) :=
 (slices_Clone_impl_Term c_.1).bind fun r1_ =>
 some (c_.2, r1_)

/-- impl.ownAll -/
noncomputable def impl_ownAll_l1 (list_ : List D2_) : Int × (List D2_) → Option ((Int × (List D2_)) ⊕ (List D2_)) := fun (i, out) =>
 cond (decide (i < (list_.length:Int))) (
  rq (0 ≤ i ∧ i < list_.length) <|
  (impl_Constraint_own (list_.getD i.toNat ([], 0))).bind fun r2_ =>
  rq (out.length + [(r2_.2, r2_.1)].length ≤ bound) <|
  rq (i64 (i + (1:Int))) <|
  some (.inl ((i + (1:Int)), (out ++ [(r2_.2, r2_.1)])))) (
  some (.inr out))

noncomputable def impl_ownAll (list_ : List D2_) : Option (List D2_) :=
 loop (impl_ownAll_l1 list_) ((0:Int), ([] : List D2_))

/-- impl.CubeProblem -/
noncomputable def impl_CubeProblem_l1 (cube : List Int) : Int × (List D2_) → Option ((Int × (List D2_)) ⊕ (Bool × (List D2_))) := fun (i, out) =>
 cond (decide (i < (cube.length:Int))) (
  rq (0 ≤ i ∧ i < cube.length) <|
  rq (out.length + [([((1:Int), (cube.getD i.toNat 0))], (1:Int))].length ≤ bound) <|
  rq (i64 (i + (1:Int))) <|
  some (.inl ((i + (1:Int)), (out ++ [([((1:Int), (cube.getD i.toNat 0))], (1:Int))])))) (
  some (.inr (true, out)))

noncomputable def impl_CubeProblem (list_ : List D2_) (cube : List Int) : Option (Bool × (List D2_)) :=
 (impl_ProblemValid list_).bind fun r1_ =>
 cond (!r1_) (
  some (false, ([] : List D2_))) (
  (impl_isCube cube).bind fun r2_ =>
  cond (!r2_) (
   some (false, ([] : List D2_))) (
   rq (i64 ((list_.length:Int) + (cube.length:Int))) <|
   cond (decide ((400:Int) < ((list_.length:Int) + (cube.length:Int)))) (
    some (false, ([] : List D2_))) (
    (impl_ownAll list_).bind fun r3_ =>
    loop (impl_CubeProblem_l1 cube) ((0:Int), r3_))))

/-- slices.Clone[[]impl.Constraint,impl.Constraint] -/
noncomputable def slices_Clone_impl_Constraint (s_ : List D2_) : Option (List D2_) :=
 nt (s_ = []) (
  some ([] : List D2_)) (
  rq (([] : List D2_).length + s_.length ≤ bound) <|
  some (([] : List D2_) ++ s_))

/-- impl.under -/
noncomputable def impl_under (l : Int) (p : List Int) : Option Int :=
 cond (decide (l < (0:Int))) (
  rq (i64 (0 - l)) <|
  rq (i64 ((0 - l) - (1:Int))) <|
  rq (0 ≤ ((0 - l) - (1:Int)) ∧ ((0 - l) - (1:Int)) < p.length) <|
  rq (i64 (0 - (p.getD ((0 - l) - (1:Int)).toNat 0))) <|
  some (0 - (p.getD ((0 - l) - (1:Int)).toNat 0))) (
  rq (i64 (l - (1:Int))) <|
  rq (0 ≤ (l - (1:Int)) ∧ (l - (1:Int)) < p.length) <|
  some (p.getD (l - (1:Int)).toNat 0))

/-- (impl.Constraint).slack -/
noncomputable def impl_Constraint_slack_l1 (c_ : (List D1_) × Int) (p : List Int) : Int × Int → Option ((Int × Int) ⊕ Int) := fun (out, i) =>
 cond (decide (i < (c_.1.length:Int))) (
  rq (0 ≤ i ∧ i < c_.1.length) <|
  (impl_under (c_.1.getD i.toNat (0, 0)).2 p).bind fun r1_ =>
  cond (decide ((0:Int) ≤ r1_)) (
   rq (i64 (out + (c_.1.getD i.toNat (0, 0)).1)) <|
   rq (i64 (i + (1:Int))) <|
   some (.inl ((out + (c_.1.getD i.toNat (0, 0)).1), (i + (1:Int))))) (
   rq (i64 (i + (1:Int))) <|
   some (.inl (out, (i + (1:Int)))))) (
  some (.inr out))

noncomputable def impl_Constraint_slack (c_ : (List D1_) × Int) (p : List Int) : Option Int :=
 rq (i64 (0 - c_.2)) <|
 loop (impl_Constraint_slack_l1 c_ p) ((0 - c_.2), (0:Int))

/-- (impl.Constraint).implied -/
noncomputable def impl_Constraint_implied_l1 (c_ : (List D1_) × Int) (p : List Int) (r1_ : Int) : Int × (List Int) → Option ((Int × (List Int)) ⊕ (List Int)) := fun (i, out) =>
 cond (decide (i < (c_.1.length:Int))) (
  rq (0 ≤ i ∧ i < c_.1.length) <|
  (impl_under (c_.1.getD i.toNat (0, 0)).2 p).bind fun r3_ =>
  cond (r3_ == (0:Int)) (
   cond (decide (r1_ < (c_.1.getD i.toNat (0, 0)).1)) (
    rq (out.length + [(c_.1.getD i.toNat (0, 0)).2].length ≤ bound) <|
    rq (i64 (i + (1:Int))) <|
    some (.inl ((i + (1:Int)), (out ++ [(c_.1.getD i.toNat (0, 0)).2])))) (
    rq (i64 (i + (1:Int))) <|
    some (.inl ((i + (1:Int)), out)))) (
   rq (i64 (i + (1:Int))) <|
   some (.inl ((i + (1:Int)), out)))) (
  some (.inr out))

noncomputable def impl_Constraint_implied (c_ : (List D1_) × Int) (p : List Int) : Option (List Int) :=
 (impl_Constraint_slack c_ p).bind fun r1_ =>
 loop (impl_Constraint_implied_l1 c_ p r1_) ((0:Int), ([] : List Int))

/-- impl.propagate -/
noncomputable def impl_propagate_l3 (i3 : Int) (r9_ : (List Int)) : Bool × Int × (List Int) → Option ((Bool × Int × (List Int)) ⊕ ((Bool × Int × (List Int)) ⊕ ((Bool × (List Int)) ⊕ (Int × (List Int))))) := fun (made6, i5, out6) =>
 cond (decide (i5 < (r9_.length:Int))) (
  rq (0 ≤ i5 ∧ i5 < r9_.length) <|
  cond (decide ((0:Int) < (r9_.getD i5.toNat 0))) (
   rq (i64 ((r9_.getD i5.toNat 0) - (1:Int))) <|
   rq (0 ≤ ((r9_.getD i5.toNat 0) - (1:Int)) ∧ ((r9_.getD i5.toNat 0) - (1:Int)) < out6.length) <|
   rq (i64 (i5 + (1:Int))) <|
   some (.inl (true, (i5 + (1:Int)), (out6.set ((r9_.getD i5.toNat 0) - (1:Int)).toNat (1:Int))))) (
   rq (i64 (0 - (r9_.getD i5.toNat 0))) <|
   rq (i64 ((0 - (r9_.getD i5.toNat 0)) - (1:Int))) <|
   rq (0 ≤ ((0 - (r9_.getD i5.toNat 0)) - (1:Int)) ∧ ((0 - (r9_.getD i5.toNat 0)) - (1:Int)) < out6.length) <|
   rq (i64 (i5 + (1:Int))) <|
   some (.inl (true, (i5 + (1:Int)), (out6.set ((0 - (r9_.getD i5.toNat 0)) - (1:Int)).toNat (-1:Int)))))) (
  rq (i64 (i3 + (1:Int))) <|
  some (.inr (.inl (made6, (i3 + (1:Int)), out6))))

noncomputable def impl_propagate_l2 (list_ : List D2_) : Bool × Int × (List Int) → Option ((Bool × Int × (List Int)) ⊕ ((Bool × (List Int)) ⊕ (Int × (List Int)))) := fun (made4, i3, out5) =>
 cond (decide (i3 < (list_.length:Int))) (
  rq (0 ≤ i3 ∧ i3 < list_.length) <|
  (impl_Constraint_slack (list_.getD i3.toNat ([], 0)) out5).bind fun r8_ =>
  cond (decide (r8_ < (0:Int))) (
   some (.inr (.inr (i3, out5)))) (
   (impl_Constraint_implied (list_.getD i3.toNat ([], 0)) out5).bind fun r9_ =>
   loop (impl_propagate_l3 i3 r9_) (made4, (0:Int), out5))) (
  some (.inr (.inl (made4, out5))))

noncomputable def impl_propagate_l1 (list_ : List D2_) : Bool × (List Int) → Option ((Bool × (List Int)) ⊕ (Int × (List Int))) := fun (made, out3) =>
 cond made (
  loop (impl_propagate_l2 list_) (false, (0:Int), out3)) (
  some (.inr ((-1:Int), out3)))

noncomputable def impl_propagate (list_ : List D2_) (p : List Int) : Option (Int × (List Int)) :=
 (slices_Clone_int p).bind fun r1_ =>
 loop (impl_propagate_l1 list_) (true, r1_)

/-- impl.valuesOf -/
noncomputable def impl_valuesOf_j1 : (List Bool) → Option (Int × Bool × (List Bool)) := fun out1 =>
 some ((0:Int), true, out1)

noncomputable def impl_valuesOf_l1 (p : List Int) : Int × (List Bool) → Option ((Int × (List Bool)) ⊕ (Int × Bool × (List Bool))) := fun (i, out) =>
 cond (decide (i < (p.length:Int))) (
  rq (0 ≤ i ∧ i < p.length) <|
  cond ((p.getD i.toNat 0) == (0:Int)) (
   rq (i64 (i + (1:Int))) <|
   some (.inr ((i + (1:Int)), false, ([] : List Bool)))) (
   rq (out.length + [(decide ((0:Int) < (p.getD i.toNat 0)))].length ≤ bound) <|
   rq (i64 (i + (1:Int))) <|
   some (.inl ((i + (1:Int)), (out ++ [(decide ((0:Int) < (p.getD i.toNat 0)))]))))) (
  up (impl_valuesOf_j1 out))

noncomputable def impl_valuesOf (p : List Int) : Option (Int × Bool × (List Bool)) :=
 loop (impl_valuesOf_l1 p) ((0:Int), ([] : List Bool))

/-- slices.Index[[]int,int] -/
noncomputable def slices_Index_int_l1 (s_ : List Int) (v : Int) : Int → Option (Int ⊕ Int) := fun i =>
 cond (decide (i < (s_.length:Int))) (
  rq (0 ≤ i ∧ i < s_.length) <|
  cond (v == (s_.getD i.toNat 0)) (
   some (.inr i)) (
   rq (i64 (i + (1:Int))) <|
   some (.inl (i + (1:Int))))) (
  some (.inr (-1:Int)))

noncomputable def slices_Index_int (s_ : List Int) (v : Int) : Option Int :=
 loop (slices_Index_int_l1 s_ v) (0:Int)

/-- slices.Contains[[]int,int] -/
noncomputable def slices_Contains_int (s_ : List Int) (v : Int) : Option Bool :=
 (slices_Index_int s_ v).bind fun r1_ =>
 some (decide ((0:Int) ≤ r1_))

/-- impl.ClauseOf$1 -/
noncomputable def impl_ClauseOf_1 (a : Int) (b : Int) : Option Int :=
 (impl_variableOf a).bind fun r1_ =>
 (impl_variableOf b).bind fun r2_ =>
 rq (i64 (r1_ - r2_)) <|
 some (r1_ - r2_)

/-- slices.Compact[[]int,int] -/
noncomputable def slices_Compact_int_j1 : Int × (List Int) → Option (Int ⊕ (List Int)) := fun (k_2, s_2) =>
 rq (0 ≤ k_2 ∧ k_2 ≤ s_2.length) <|
 rq (0 ≤ k_2 ∧ k_2 ≤ (s_2.take k_2.toNat ++ List.replicate (s_2.length - k_2.toNat) (0:Int)).length) <|
 some (.inr ((s_2.take k_2.toNat ++ List.replicate (s_2.length - k_2.toNat) (0:Int)).take k_2.toNat))

noncomputable def slices_Compact_int_l2 (k_ : Int) : Int × Int × (List Int) → Option ((Int × Int × (List Int)) ⊕ (Int ⊕ (List Int))) := fun (k_1, k2_, s_1) =>
 cond (decide (k2_ < ((s_1.length:Int) - k_))) (
  rq (0 ≤ k2_ ∧ k_ + k2_ < s_1.length) <|
  rq (i64 (k2_ - (1:Int))) <|
  rq (0 ≤ (k2_ - (1:Int)) ∧ k_ + (k2_ - (1:Int)) < s_1.length) <|
  cond ((s_1.getD (k_ + k2_).toNat 0) != (s_1.getD (k_ + (k2_ - (1:Int))).toNat 0)) (
   rq (0 ≤ k2_ ∧ k_ + k2_ < s_1.length) <|
   rq (0 ≤ k_1 ∧ k_1 < s_1.length) <|
   rq (i64 (k_1 + (1:Int))) <|
   rq (i64 (k2_ + (1:Int))) <|
   some (.inl ((k_1 + (1:Int)), (k2_ + (1:Int)), (s_1.set k_1.toNat (s_1.getD (k_ + k2_).toNat 0))))) (
   rq (i64 (k2_ + (1:Int))) <|
   some (.inl (k_1, (k2_ + (1:Int)), s_1)))) (
  up (slices_Compact_int_j1 (k_1, s_1)))

noncomputable def slices_Compact_int_l1 (s_ : List Int) : Int → Option (Int ⊕ (List Int)) := fun k_ =>
 cond (decide (k_ < (s_.length:Int))) (
  rq (0 ≤ k_ ∧ k_ < s_.length) <|
  rq (i64 (k_ - (1:Int))) <|
  rq (0 ≤ (k_ - (1:Int)) ∧ (k_ - (1:Int)) < s_.length) <|
  cond ((s_.getD k_.toNat 0) == (s_.getD (k_ - (1:Int)).toNat 0)) (
   rq (0 ≤ k_ ∧ k_ ≤ s_.length) <|
   loop (slices_Compact_int_l2 k_) (k_, (1:Int), s_)) (
   rq (i64 (k_ + (1:Int))) <|
   some (.inl (k_ + (1:Int))))) (
  some (.inr s_))

noncomputable def slices_Compact_int (s_ : List Int) : Option (List Int) :=
 cond (decide ((s_.length:Int) < (2:Int))) (
  some s_) (
  loop (slices_Compact_int_l1 s_) (1:Int))

/-- impl.ClauseOf -/
noncomputable def impl_ClauseOf_l2 (r5_ : (List Int)) : Int × (List D1_) → Option ((Int × (List D1_)) ⊕ (Int ⊕ (Bool × Int × (List D1_)))) := fun (i1, c_0) =>
 cond (decide (i1 < (r5_.length:Int))) (
  rq (0 ≤ i1 ∧ i1 < r5_.length) <|
  rq (c_0.length + [((1:Int), (r5_.getD i1.toNat 0))].length ≤ bound) <|
  rq (i64 (i1 + (1:Int))) <|
  some (.inl ((i1 + (1:Int)), (c_0 ++ [((1:Int), (r5_.getD i1.toNat 0))])))) (
  some (.inr (.inr (true, (1:Int), c_0))))

noncomputable def impl_ClauseOf_l1 (lits : List Int) : Int → Option (Int ⊕ (Bool × Int × (List D1_))) := fun i =>
 cond (decide (i < (lits.length:Int))) (
  rq (0 ≤ i ∧ i < lits.length) <|
  (impl_isLiteral (lits.getD i.toNat 0)).bind fun r1_ =>
  cond (!r1_) (
   some (.inr (false, (0:Int), ([] : List D1_)))) (
   rq (i64 (0 - (lits.getD i.toNat 0))) <|
   (slices_Contains_int lits (0 - (lits.getD i.toNat 0))).bind fun r2_ =>
   cond r2_ (
    some (.inr (false, (0:Int), ([] : List D1_)))) (
    rq (i64 (i + (1:Int))) <|
    some (.inl (i + (1:Int)))))) (
  (slices_Clone_int lits).bind fun r3_ =>
  (sortI impl_ClauseOf_1 r3_).bind fun r4_ =>
  (slices_Compact_int r4_).bind fun r5_ =>
  loop (impl_ClauseOf_l2 r5_) ((0:Int), ([] : List D1_)))

noncomputable def impl_ClauseOf (lits : List Int) : Option (Bool × Int × (List D1_)) :=
 cond (decide ((40:Int) < (lits.length:Int))) (
  some (false, (0:Int), ([] : List D1_))) (
  loop (impl_ClauseOf_l1 lits) (0:Int))

/-- (*impl.searching).fail -/
noncomputable def impl_searching_fail__Rsd_j2 (o1 : List D2_) (o2 : List D5_) (r1_ : Bool × Int × (List D1_)) : Unit → Option ((List D2_) × (List D5_)) := fun _ =>
 (impl_Constraint_own (r1_.2.2, r1_.2.1)).bind fun r3_ =>
 rq (o2.length + [((7:Int), ((0:Int), ((0:Int), (r3_.2, r3_.1))))].length ≤ bound) <|
 some ((o1 ++ [(r1_.2.2, r1_.2.1)]), (o2 ++ [((7:Int), ((0:Int), ((0:Int), (r3_.2, r3_.1))))]))

noncomputable def impl_searching_fail__Rsd_j1 (o1 : List D2_) (o2 : List D5_) : (List Int) → Option ((List D2_) × (List D5_)) := fun lits1 =>
 (impl_ClauseOf lits1).bind fun r1_ =>
 rq (o1.length + [(r1_.2.2, r1_.2.1)].length ≤ bound) <|
 impl_searching_fail__Rsd_j2 o1 o2 r1_ ()

noncomputable def impl_searching_fail__Rsd_l1 (decisions : List Int) (o1 : List D2_) (o2 : List D5_) : Int × (List Int) → Option ((Int × (List Int)) ⊕ ((List D2_) × (List D5_))) := fun (i, lits) =>
 cond (decide (i < (decisions.length:Int))) (
  rq (0 ≤ i ∧ i < decisions.length) <|
  rq (i64 (0 - (decisions.getD i.toNat 0))) <|
  rq (lits.length + [(0 - (decisions.getD i.toNat 0))].length ≤ bound) <|
  rq (i64 (i + (1:Int))) <|
  some (.inl ((i + (1:Int)), (lits ++ [(0 - (decisions.getD i.toNat 0))])))) (
  up (impl_searching_fail__Rsd_j1 o1 o2 lits))

noncomputable def impl_searching_fail__Rsd (decisions : List Int) (s_1 : Int) (s_3 : Bool) (o1 : List D2_) (o2 : List D5_) : Option ((List D2_) × (List D5_)) :=
 loop (impl_searching_fail__Rsd_l1 decisions o1 o2) ((0:Int), ([] : List Int))

/-- (*impl.searching).visit -/
noncomputable def impl_searching_visit__Rsd_j2 (a1 : List Int) : Int × Bool × (List D2_) × (List D5_) → Option (Bool × Int × Bool × (List Bool) × (List D2_) × (List D5_)) := fun (i_12, i_32, i_02, i_22) =>
 (impl_searching_fail__Rsd a1 i_12 i_32 i_02 i_22).bind fun r9_ =>
 some (false, i_12, i_32, ([] : List Bool), r9_.1, r9_.2)

noncomputable def impl_searching_visit__Rsd_j3 (a1 : List Int) : Int × Bool × (List D2_) × (List D5_) → Option (Bool × Int × Bool × (List Bool) × (List D2_) × (List D5_)) := fun (i_11, i_31, i_01, i_21) =>
 cond (decide ((1000:Int) ≤ (i_21.length:Int))) (
  some (false, i_11, true, ([] : List Bool), i_01, i_21)) (
  impl_searching_visit__Rsd_j2 a1 (i_11, i_31, i_01, i_21))

noncomputable def impl_searching_visit__Rsd_l1 (a1 : List Int) (r4_ : Int × Bool × (List Bool)) (rec_ : (List Int) → Int → Bool → (List D2_) → (List D5_) → Option (Bool × Int × Bool × (List Bool) × (List D2_) × (List D5_))) : Int × Int × Bool × (List D2_) × (List D5_) → Option ((Int × Int × Bool × (List D2_) × (List D5_)) ⊕ (Bool × Int × Bool × (List Bool) × (List D2_) × (List D5_))) := fun (i3, i_1, i_3, i_0, i_2) =>
 cond (decide (i3 < ([r4_.1, (0 - r4_.1)].length:Int))) (
  rq (0 ≤ i3 ∧ i3 < [r4_.1, (0 - r4_.1)].length) <|
  (slices_Clone_int a1).bind fun r7_ =>
  rq (r7_.length + [([r4_.1, (0 - r4_.1)].getD i3.toNat 0)].length ≤ bound) <|
  (rec_ (r7_ ++ [([r4_.1, (0 - r4_.1)].getD i3.toNat 0)]) i_1 i_3 i_0 i_2).bind fun r8_ =>
  cond r8_.1 (
   some (.inr (r8_.1, r8_.2.1, r8_.2.2.1, r8_.2.2.2.1, r8_.2.2.2.2.1, r8_.2.2.2.2.2))) (
   cond r8_.2.2.1 (
    some (.inr (r8_.1, r8_.2.1, r8_.2.2.1, r8_.2.2.2.1, r8_.2.2.2.2.1, r8_.2.2.2.2.2))) (
    rq (i64 (i3 + (1:Int))) <|
    some (.inl ((i3 + (1:Int)), r8_.2.1, r8_.2.2.1, r8_.2.2.2.2.1, r8_.2.2.2.2.2))))) (
  up (impl_searching_visit__Rsd_j3 a1 (i_1, i_3, i_0, i_2)))

noncomputable def impl_searching_visit__Rsd_j1 (a1 : List Int) (o0_1 : Int) (o0_3 : Bool) (o1 : List D2_) (o2 : List D5_) (rec_ : (List Int) → Int → Bool → (List D2_) → (List D5_) → Option (Bool × Int × Bool × (List Bool) × (List D2_) × (List D5_))) : (List Int) → Option (Bool × Int × Bool × (List Bool) × (List D2_) × (List D5_)) := fun i2 =>
 (impl_propagate o1 i2).bind fun r3_ =>
 cond (decide (r3_.1 < (0:Int))) (
  (impl_valuesOf r3_.2).bind fun r4_ =>
  cond r4_.2.1 (
   some (true, (o0_1 - (1:Int)), o0_3, r4_.2.2, o1, o2)) (
   rq (i64 (0 - r4_.1)) <|
   loop (impl_searching_visit__Rsd_l1 a1 r4_ rec_) ((0:Int), (o0_1 - (1:Int)), o0_3, o1, o2))) (
  impl_searching_visit__Rsd_j2 a1 ((o0_1 - (1:Int)), o0_3, o1, o2))

noncomputable def impl_searching_visit__Rsd_l2 (a1 : List Int) (o0_1 : Int) (o0_3 : Bool) (o1 : List D2_) (o2 : List D5_) (rec_ : (List Int) → Int → Bool → (List D2_) → (List D5_) → Option (Bool × Int × Bool × (List Bool) × (List D2_) × (List D5_))) : Int × (List Int) → Option ((Int × (List Int)) ⊕ (Bool × Int × Bool × (List Bool) × (List D2_) × (List D5_))) := fun (i, i1) =>
 cond (decide (i < (a1.length:Int))) (
  rq (0 ≤ i ∧ i < a1.length) <|
  (impl_variableOf (a1.getD i.toNat 0)).bind fun r2_ =>
  rq (i64 (r2_ - (1:Int))) <|
  rq (0 ≤ (r2_ - (1:Int)) ∧ (r2_ - (1:Int)) < i1.length) <|
  cond (decide ((a1.getD i.toNat 0) < (0:Int))) (
   rq (i64 (0 - (a1.getD i.toNat 0))) <|
   rq (i64 ((0 - (a1.getD i.toNat 0)) - (1:Int))) <|
   rq (0 ≤ ((0 - (a1.getD i.toNat 0)) - (1:Int)) ∧ ((0 - (a1.getD i.toNat 0)) - (1:Int)) < (i1.set (r2_ - (1:Int)).toNat (1:Int)).length) <|
   rq (i64 (i + (1:Int))) <|
   some (.inl ((i + (1:Int)), ((i1.set (r2_ - (1:Int)).toNat (1:Int)).set ((0 - (a1.getD i.toNat 0)) - (1:Int)).toNat (-1:Int))))) (
   rq (i64 (i + (1:Int))) <|
   some (.inl ((i + (1:Int)), (i1.set (r2_ - (1:Int)).toNat (1:Int)))))) (
  up (impl_searching_visit__Rsd_j1 a1 o0_1 o0_3 o1 o2 rec_ i1))

noncomputable def impl_searching_visit__Rsd_rec (rec_ : (List Int) → Int → Bool → (List D2_) → (List D5_) → Option (Bool × Int × Bool × (List Bool) × (List D2_) × (List D5_))) (a1 : List Int) (o0_1 : Int) (o0_3 : Bool) (o1 : List D2_) (o2 : List D5_) : Option (Bool × Int × Bool × (List Bool) × (List D2_) × (List D5_)) :=
 cond (o0_1 == (0:Int)) (
  some (false, o0_1, true, ([] : List Bool), o1, o2)) (
  cond (decide ((1000:Int) ≤ (o2.length:Int))) (
   some (false, o0_1, true, ([] : List Bool), o1, o2)) (
   rq (i64 (o0_1 - (1:Int))) <|
   rq (0 ≤ (12:Int) ∧ (12:Int) ≤ bound ∧ (12:Int) = (12:Int)) <|
   loop (impl_searching_visit__Rsd_l2 a1 o0_1 o0_3 o1 o2 rec_) ((0:Int), (List.replicate (12:Int).toNat 0))))

/-- So many calls within calls. -/
noncomputable def impl_searching_visit__Rsd : Nat → (List Int) → Int → Bool → (List D2_) → (List D5_) → Option (Bool × Int × Bool × (List Bool) × (List D2_) × (List D5_))
  | 0 => fun _ _ _ _ _ => none
  | n_ + 1 => impl_searching_visit__Rsd_rec (impl_searching_visit__Rsd n_)

/-- (*impl.searching).visit -/
noncomputable def impl_searching_visit__R0s_j2 (a1 : List Int) : Int × Bool × (List D2_) × (List D5_) → Option (Bool × Int × Bool × (List Bool) × (List D2_) × (List D5_)) := fun (i_12, i_32, i_02, i_22) =>
 (impl_searching_fail__Rsd a1 i_12 i_32 i_02 i_22).bind fun r9_ =>
 some (false, i_12, i_32, ([] : List Bool), r9_.1, r9_.2)

noncomputable def impl_searching_visit__R0s_j3 (a1 : List Int) : Int × Bool × (List D2_) × (List D5_) → Option (Bool × Int × Bool × (List Bool) × (List D2_) × (List D5_)) := fun (i_11, i_31, i_01, i_21) =>
 cond (decide ((1000:Int) ≤ (i_21.length:Int))) (
  some (false, i_11, true, ([] : List Bool), i_01, i_21)) (
  impl_searching_visit__R0s_j2 a1 (i_11, i_31, i_01, i_21))

noncomputable def impl_searching_visit__R0s_l1 (a1 : List Int) (r4_ : Int × Bool × (List Bool)) : Int × Int × Bool × (List D2_) × (List D5_) → Option ((Int × Int × Bool × (List D2_) × (List D5_)) ⊕ (Bool × Int × Bool × (List Bool) × (List D2_) × (List D5_))) := fun (i3, i_1, i_3, i_0, i_2) =>
 cond (decide (i3 < ([r4_.1, (0 - r4_.1)].length:Int))) (
  rq (0 ≤ i3 ∧ i3 < [r4_.1, (0 - r4_.1)].length) <|
  (slices_Clone_int a1).bind fun r7_ =>
  rq (r7_.length + [([r4_.1, (0 - r4_.1)].getD i3.toNat 0)].length ≤ bound) <|
  (impl_searching_visit__Rsd 64 (r7_ ++ [([r4_.1, (0 - r4_.1)].getD i3.toNat 0)]) i_1 i_3 i_0 i_2).bind fun r8_ =>
  cond r8_.1 (
   some (.inr (r8_.1, r8_.2.1, r8_.2.2.1, r8_.2.2.2.1, r8_.2.2.2.2.1, r8_.2.2.2.2.2))) (
   cond r8_.2.2.1 (
    some (.inr (r8_.1, r8_.2.1, r8_.2.2.1, r8_.2.2.2.1, r8_.2.2.2.2.1, r8_.2.2.2.2.2))) (
    rq (i64 (i3 + (1:Int))) <|
    some (.inl ((i3 + (1:Int)), r8_.2.1, r8_.2.2.1, r8_.2.2.2.2.1, r8_.2.2.2.2.2))))) (
  up (impl_searching_visit__R0s_j3 a1 (i_1, i_3, i_0, i_2)))

noncomputable def impl_searching_visit__R0s_j1 (a1 : List Int) (o0_1 : Int) (o0_3 : Bool) (o1 : List D2_) : (List Int) → Option (Bool × Int × Bool × (List Bool) × (List D2_) × (List D5_)) := fun i2 =>
 (impl_propagate o1 i2).bind fun r3_ =>
 cond (decide (r3_.1 < (0:Int))) (
  (impl_valuesOf r3_.2).bind fun r4_ =>
  cond r4_.2.1 (
   some (true, (o0_1 - (1:Int)), o0_3, r4_.2.2, o1, ([] : List D5_))) (
   rq (i64 (0 - r4_.1)) <|
   loop (impl_searching_visit__R0s_l1 a1 r4_) ((0:Int), (o0_1 - (1:Int)), o0_3, o1, ([] : List D5_)))) (
  impl_searching_visit__R0s_j2 a1 ((o0_1 - (1:Int)), o0_3, o1, ([] : List D5_)))

noncomputable def impl_searching_visit__R0s_l2 (a1 : List Int) (o0_1 : Int) (o0_3 : Bool) (o1 : List D2_) : Int × (List Int) → Option ((Int × (List Int)) ⊕ (Bool × Int × Bool × (List Bool) × (List D2_) × (List D5_))) := fun (i, i1) =>
 cond (decide (i < (a1.length:Int))) (
  rq (0 ≤ i ∧ i < a1.length) <|
  (impl_variableOf (a1.getD i.toNat 0)).bind fun r2_ =>
  rq (i64 (r2_ - (1:Int))) <|
  rq (0 ≤ (r2_ - (1:Int)) ∧ (r2_ - (1:Int)) < i1.length) <|
  cond (decide ((a1.getD i.toNat 0) < (0:Int))) (
   rq (i64 (0 - (a1.getD i.toNat 0))) <|
   rq (i64 ((0 - (a1.getD i.toNat 0)) - (1:Int))) <|
   rq (0 ≤ ((0 - (a1.getD i.toNat 0)) - (1:Int)) ∧ ((0 - (a1.getD i.toNat 0)) - (1:Int)) < (i1.set (r2_ - (1:Int)).toNat (1:Int)).length) <|
   rq (i64 (i + (1:Int))) <|
   some (.inl ((i + (1:Int)), ((i1.set (r2_ - (1:Int)).toNat (1:Int)).set ((0 - (a1.getD i.toNat 0)) - (1:Int)).toNat (-1:Int))))) (
   rq (i64 (i + (1:Int))) <|
   some (.inl ((i + (1:Int)), (i1.set (r2_ - (1:Int)).toNat (1:Int)))))) (
  up (impl_searching_visit__R0s_j1 a1 o0_1 o0_3 o1 i1))

noncomputable def impl_searching_visit__R0s_rec (rec_ : (List Int) → Int → Bool → (List D2_) → Option (Bool × Int × Bool × (List Bool) × (List D2_) × (List D5_))) (a1 : List Int) (o0_1 : Int) (o0_3 : Bool) (o1 : List D2_) : Option (Bool × Int × Bool × (List Bool) × (List D2_) × (List D5_)) :=
 cond (o0_1 == (0:Int)) (
  some (false, o0_1, true, ([] : List Bool), o1, ([] : List D5_))) (
  cond (decide ((1000:Int) ≤ (0:Int))) (
   some (false, o0_1, true, ([] : List Bool), o1, ([] : List D5_))) (
   rq (i64 (o0_1 - (1:Int))) <|
   rq (0 ≤ (12:Int) ∧ (12:Int) ≤ bound ∧ (12:Int) = (12:Int)) <|
   loop (impl_searching_visit__R0s_l2 a1 o0_1 o0_3 o1) ((0:Int), (List.replicate (12:Int).toNat 0))))

/-- So many calls within calls. -/
noncomputable def impl_searching_visit__R0s : Nat → (List Int) → Int → Bool → (List D2_) → Option (Bool × Int × Bool × (List Bool) × (List D2_) × (List D5_))
  | 0 => fun _ _ _ _ => none
  | n_ + 1 => impl_searching_visit__R0s_rec (impl_searching_visit__R0s n_)

/-- impl.SolveProblem -/
noncomputable def impl_SolveProblem (list_ : List D2_) (fuel : Int) : Option (Int × (List Bool) × (List D5_)) :=
 (impl_ProblemValid list_).bind fun r1_ =>
 cond (!r1_) (
  some ((3:Int), ([] : List Bool), ([] : List D5_))) (
  (impl_isFuel fuel).bind fun r2_ =>
  cond (!r2_) (
   some ((3:Int), ([] : List Bool), ([] : List D5_))) (
   (slices_Clone_impl_Constraint list_).bind fun r3_ =>
   (impl_searching_visit__R0s 64 ([] : List Int) fuel false r3_).bind fun r4_ =>
   cond r4_.1 (
    some ((1:Int), r4_.2.2.2.1, ([] : List D5_))) (
    cond r4_.2.2.1 (
     some ((0:Int), ([] : List Bool), ([] : List D5_))) (
     some ((2:Int), ([] : List Bool), r4_.2.2.2.2.2)))))

/-- impl.negations -/
noncomputable def impl_negations_l1 (lits : List Int) : Int × (List Int) → Option ((Int × (List Int)) ⊕ (List Int)) := fun (i, out) =>
 cond (decide (i < (lits.length:Int))) (
  rq (0 ≤ i ∧ i < lits.length) <|
  rq (i64 (0 - (lits.getD i.toNat 0))) <|
  rq (out.length + [(0 - (lits.getD i.toNat 0))].length ≤ bound) <|
  rq (i64 (i + (1:Int))) <|
  some (.inl ((i + (1:Int)), (out ++ [(0 - (lits.getD i.toNat 0))])))) (
  some (.inr out))

noncomputable def impl_negations (lits : List Int) : Option (List Int) :=
 loop (impl_negations_l1 lits) ((0:Int), ([] : List Int))

/-- impl.LiftStep -/
noncomputable def impl_LiftStep_j1 : (List Int) → Option (Bool × Int × Int × Int × Int × (List D1_)) := fun i2 =>
 (impl_ClauseOf i2).bind fun r4_ =>
 cond (!r4_.1) (
  some (false, (0:Int), (0:Int), (0:Int), (0:Int), ([] : List D1_))) (
  some (true, (7:Int), (0:Int), (0:Int), r4_.2.1, r4_.2.2))

noncomputable def impl_LiftStep_l1 (a0 : Int × Int × Int × (List D1_) × Int) : Int × (List Int) → Option ((Int × (List Int)) ⊕ (Bool × Int × Int × Int × Int × (List D1_))) := fun (i, i1) =>
 cond (decide (i < (a0.2.2.2.1.length:Int))) (
  rq (0 ≤ i ∧ i < a0.2.2.2.1.length) <|
  cond ((a0.2.2.2.1.getD i.toNat (0, 0)).1 != (1:Int)) (
   some (.inr (false, (0:Int), (0:Int), (0:Int), (0:Int), ([] : List D1_)))) (
   rq (i1.length + [(a0.2.2.2.1.getD i.toNat (0, 0)).2].length ≤ bound) <|
   rq (i64 (i + (1:Int))) <|
   some (.inl ((i + (1:Int)), (i1 ++ [(a0.2.2.2.1.getD i.toNat (0, 0)).2]))))) (
  up (impl_LiftStep_j1 i1))

noncomputable def impl_LiftStep (a0 : Int × Int × Int × (List D1_) × Int) (a1 : List Int) : Option (Bool × Int × Int × Int × Int × (List D1_)) :=
 cond (a0.1 != (7:Int)) (
  some (false, (0:Int), (0:Int), (0:Int), (0:Int), ([] : List D1_))) (
  cond (a0.2.1 != (0:Int)) (
   some (false, (0:Int), (0:Int), (0:Int), (0:Int), ([] : List D1_))) (
   cond (a0.2.2.1 != (0:Int)) (
    some (false, (0:Int), (0:Int), (0:Int), (0:Int), ([] : List D1_))) (
    (impl_ConstraintValid a0.2.2.2).bind fun r1_ =>
    cond (!r1_) (
     some (false, (0:Int), (0:Int), (0:Int), (0:Int), ([] : List D1_))) (
     cond (a0.2.2.2.2 != (1:Int)) (
      some (false, (0:Int), (0:Int), (0:Int), (0:Int), ([] : List D1_))) (
      (impl_isCube a1).bind fun r2_ =>
      cond (!r2_) (
       some (false, (0:Int), (0:Int), (0:Int), (0:Int), ([] : List D1_))) (
       (impl_negations a1).bind fun r3_ =>
       loop (impl_LiftStep_l1 a0) ((0:Int), r3_)))))))

/-- impl.MergeProofs -/
noncomputable def impl_MergeProofs_j2 : (List D5_) → Option (Bool × (List D5_)) := fun i16 =>
 cond (decide ((1000:Int) < (i16.length:Int))) (
  some (false, ([] : List D5_))) (
  some (true, i16))

noncomputable def impl_MergeProofs_l2 (i8 : Int) (r11_ : (List (List Int))) : Int × (List D5_) × (List (List Int)) → Option ((Int × (List D5_) × (List (List Int))) ⊕ ((Int × (List D5_)) ⊕ (Bool × (List D5_)))) := fun (i13, i14, i15) =>
 cond (decide (i13 < (r11_.length:Int))) (
  rq (0 ≤ i13 ∧ i13 < i15.length) <|
  (impl_negations (i15.getD i13.toNat [])).bind fun r14_ =>
  (impl_ClauseOf r14_).bind fun r15_ =>
  rq (i14.length + [((7:Int), ((0:Int), ((0:Int), (r15_.2.2, r15_.2.1))))].length ≤ bound) <|
  rq (i64 (i13 + (1:Int))) <|
  some (.inl ((i13 + (1:Int)), (i14 ++ [((7:Int), ((0:Int), ((0:Int), (r15_.2.2, r15_.2.1))))]), (i15.set i13.toNat (i15.getD i13.toNat []))))) (
  rq (i64 (i8 - (1:Int))) <|
  some (.inr (.inl ((i8 - (1:Int)), i14))))

noncomputable def impl_MergeProofs_l1 (a0 : List Int) : Int × (List D5_) → Option ((Int × (List D5_)) ⊕ (Bool × (List D5_))) := fun (i8, i12) =>
 cond (decide ((0:Int) ≤ i8)) (
  rq (0 ≤ i8 ∧ i8 ≤ a0.length) <|
  (impl_cubesOf (a0.take i8.toNat)).bind fun r11_ =>
  loop (impl_MergeProofs_l2 i8 r11_) ((0:Int), i12, r11_)) (
  up (impl_MergeProofs_j2 i12))

noncomputable def impl_MergeProofs_j1 (a0 : List Int) : (List D5_) → Option (Bool × (List D5_)) := fun i7 =>
 rq (i64 ((a0.length:Int) - (1:Int))) <|
 loop (impl_MergeProofs_l1 a0) (((a0.length:Int) - (1:Int)), i7)

noncomputable def impl_MergeProofs_l4 (a1 : List (List D5_)) (i : Int) (i4 : List (List Int)) : Int × (List D5_) → Option ((Int × (List D5_)) ⊕ ((Int × (List D5_) × (List (List Int))) ⊕ (Bool × (List D5_)))) := fun (i5, i6) =>
 cond (decide (i5 < ((a1.getD i.toNat []).length:Int))) (
  rq (0 ≤ i5 ∧ i5 < (a1.getD i.toNat []).length) <|
  (impl_LiftStep ((a1.getD i.toNat []).getD i5.toNat (0, (0, (0, ([], 0))))) (i4.getD i.toNat [])).bind fun r5_ =>
  cond r5_.1 (
   rq (i6.length + [(r5_.2.1, (r5_.2.2.1, (r5_.2.2.2.1, (r5_.2.2.2.2.2, r5_.2.2.2.2.1))))].length ≤ bound) <|
   rq (i64 (i5 + (1:Int))) <|
   some (.inl ((i5 + (1:Int)), (i6 ++ [(r5_.2.1, (r5_.2.2.1, (r5_.2.2.2.1, (r5_.2.2.2.2.2, r5_.2.2.2.2.1))))])))) (
   rq (i64 (i5 + (1:Int))) <|
   some (.inl ((i5 + (1:Int)), i6)))) (
  rq (i64 (i + (1:Int))) <|
  some (.inr (.inl ((i + (1:Int)), i6, (i4.set i.toNat (i4.getD i.toNat []))))))

noncomputable def impl_MergeProofs_l3 (a0 : List Int) (a1 : List (List D5_)) (r1_ : Bool × (List (List Int))) : Int × (List D5_) × (List (List Int)) → Option ((Int × (List D5_) × (List (List Int))) ⊕ (Bool × (List D5_))) := fun (i, i3, i4) =>
 cond (decide (i < (r1_.2.length:Int))) (
  rq (0 ≤ i ∧ i < i4.length) <|
  rq (0 ≤ i ∧ i < a1.length) <|
  cond (decide ((1000:Int) < ((a1.getD i.toNat []).length:Int))) (
   some (.inr (false, ([] : List D5_)))) (
   rq (0 ≤ i ∧ i < a1.length) <|
   loop (impl_MergeProofs_l4 a1 i i4) ((0:Int), i3))) (
  up (impl_MergeProofs_j1 a0 i3))

noncomputable def impl_MergeProofs (a0 : List Int) (a1 : List (List D5_)) : Option (Bool × (List D5_)) :=
 (impl_SplitCubes a0).bind fun r1_ =>
 cond (!r1_.1) (
  some (false, ([] : List D5_))) (
  cond ((a1.length:Int) != (r1_.2.length:Int)) (
   some (false, ([] : List D5_))) (
   loop (impl_MergeProofs_l3 a0 a1 r1_) ((0:Int), ([] : List D5_), r1_.2)))

/-- impl.SolveCubes -/
noncomputable def impl_SolveCubes_j1 (a1 : List Int) : (List (List D5_)) → Option (Int × (List Bool) × (List D5_)) := fun i3 =>
 (impl_MergeProofs a1 i3).bind fun r8_ =>
 cond (!r8_.1) (
  some ((0:Int), ([] : List Bool), ([] : List D5_))) (
  some ((2:Int), ([] : List Bool), r8_.2))

noncomputable def impl_SolveCubes_l1 (a0 : List D2_) (a1 : List Int) (a2 : Int) (r1_ : Bool × (List (List Int))) : Int × (List (List D5_)) × (List (List Int)) → Option ((Int × (List (List D5_)) × (List (List Int))) ⊕ (Int × (List Bool) × (List D5_))) := fun (i, i1, i2) =>
 cond (decide (i < (r1_.2.length:Int))) (
  rq (0 ≤ i ∧ i < i2.length) <|
  (impl_CubeProblem a0 (i2.getD i.toNat [])).bind fun r6_ =>
  (impl_SolveProblem r6_.2 a2).bind fun r7_ =>
  cond (r7_.1 != (2:Int)) (
   some (.inr (r7_.1, r7_.2.1, ([] : List D5_)))) (
   rq (i1.length + [r7_.2.2].length ≤ bound) <|
   rq (i64 (i + (1:Int))) <|
   some (.inl ((i + (1:Int)), (i1 ++ [r7_.2.2]), (i2.set i.toNat (i2.getD i.toNat [])))))) (
  up (impl_SolveCubes_j1 a1 i1))

noncomputable def impl_SolveCubes (a0 : List D2_) (a1 : List Int) (a2 : Int) : Option (Int × (List Bool) × (List D5_)) :=
 (impl_SplitCubes a1).bind fun r1_ =>
 cond (!r1_.1) (
  some ((3:Int), ([] : List Bool), ([] : List D5_))) (
  (impl_ProblemValid a0).bind fun r2_ =>
  cond (!r2_) (
   some ((3:Int), ([] : List Bool), ([] : List D5_))) (
   (impl_isFuel a2).bind fun r3_ =>
   cond (!r3_) (
    some ((3:Int), ([] : List Bool), ([] : List D5_))) (
    rq (i64 ((400:Int) - (a1.length:Int))) <|
    cond (decide (((400:Int) - (a1.length:Int)) < (a0.length:Int))) (
     some ((3:Int), ([] : List Bool), ([] : List D5_))) (
     loop (impl_SolveCubes_l1 a0 a1 a2 r1_) ((0:Int), ([] : List (List D5_)), r1_.2)))))

/-- laws.eqBoolS -/
noncomputable def laws_eqBoolS_l1 (a : List Bool) (b : List Bool) : Int → Option (Int ⊕ Bool) := fun i =>
 cond (decide (i < (a.length:Int))) (
  rq (0 ≤ i ∧ i < a.length) <|
  rq (0 ≤ i ∧ i < b.length) <|
  cond ((a.getD i.toNat false) != (b.getD i.toNat false)) (
   some (.inr false)) (
   rq (i64 (i + (1:Int))) <|
   some (.inl (i + (1:Int))))) (
  some (.inr true))

noncomputable def laws_eqBoolS (a : List Bool) (b : List Bool) : Option Bool :=
 cond ((a.length:Int) != (b.length:Int)) (
  some false) (
  loop (laws_eqBoolS_l1 a b) (0:Int))

/-- laws.eqTerm -/
noncomputable def laws_eqTerm (a : Int × Int) (b : Int × Int) : Option Bool :=
 cond (a.1 != b.1) (
  some false) (
  cond (a.2 != b.2) (
   some false) (
   some true))

/-- laws.eqTermS -/
noncomputable def laws_eqTermS_l1 (a : List D1_) (b : List D1_) : Int → Option (Int ⊕ Bool) := fun i =>
 cond (decide (i < (a.length:Int))) (
  rq (0 ≤ i ∧ i < a.length) <|
  rq (0 ≤ i ∧ i < b.length) <|
  (laws_eqTerm (a.getD i.toNat (0, 0)) (b.getD i.toNat (0, 0))).bind fun r2_ =>
  cond (!r2_) (
   some (.inr false)) (
   rq (i64 (i + (1:Int))) <|
   some (.inl (i + (1:Int))))) (
  some (.inr true))

noncomputable def laws_eqTermS (a : List D1_) (b : List D1_) : Option Bool :=
 cond ((a.length:Int) != (b.length:Int)) (
  some false) (
  loop (laws_eqTermS_l1 a b) (0:Int))

/-- laws.eqConstraint -/
noncomputable def laws_eqConstraint (a : (List D1_) × Int) (b : (List D1_) × Int) : Option Bool :=
 (laws_eqTermS a.1 b.1).bind fun r1_ =>
 cond (!r1_) (
  some false) (
  cond (a.2 != b.2) (
   some false) (
   some true))

/-- laws.eqStep -/
noncomputable def laws_eqStep (a : Int × Int × Int × (List D1_) × Int) (b : Int × Int × Int × (List D1_) × Int) : Option Bool :=
 cond (a.1 != b.1) (
  some false) (
  cond (a.2.1 != b.2.1) (
   some false) (
   cond (a.2.2.1 != b.2.2.1) (
    some false) (
    (laws_eqConstraint a.2.2.2 b.2.2.2).bind fun r1_ =>
    cond (!r1_) (
     some false) (
     some true))))

/-- laws.eqStepS -/
noncomputable def laws_eqStepS_l1 (a : List D5_) (b : List D5_) : Int → Option (Int ⊕ Bool) := fun i =>
 cond (decide (i < (a.length:Int))) (
  rq (0 ≤ i ∧ i < a.length) <|
  rq (0 ≤ i ∧ i < b.length) <|
  (laws_eqStep (a.getD i.toNat (0, (0, (0, ([], 0))))) (b.getD i.toNat (0, (0, (0, ([], 0)))))).bind fun r2_ =>
  cond (!r2_) (
   some (.inr false)) (
   rq (i64 (i + (1:Int))) <|
   some (.inl (i + (1:Int))))) (
  some (.inr true))

noncomputable def laws_eqStepS (a : List D5_) (b : List D5_) : Option Bool :=
 cond ((a.length:Int) != (b.length:Int)) (
  some false) (
  loop (laws_eqStepS_l1 a b) (0:Int))

/-- laws.eqConstraintS -/
noncomputable def laws_eqConstraintS_l1 (a : List D2_) (b : List D2_) : Int → Option (Int ⊕ Bool) := fun i =>
 cond (decide (i < (a.length:Int))) (
  rq (0 ≤ i ∧ i < a.length) <|
  rq (0 ≤ i ∧ i < b.length) <|
  (laws_eqConstraint (a.getD i.toNat ([], 0)) (b.getD i.toNat ([], 0))).bind fun r2_ =>
  cond (!r2_) (
   some (.inr false)) (
   rq (i64 (i + (1:Int))) <|
   some (.inl (i + (1:Int))))) (
  some (.inr true))

noncomputable def laws_eqConstraintS (a : List D2_) (b : List D2_) : Option Bool :=
 cond ((a.length:Int) != (b.length:Int)) (
  some false) (
  loop (laws_eqConstraintS_l1 a b) (0:Int))

/-- laws.eqIntS -/
noncomputable def laws_eqIntS_l1 (a : List Int) (b : List Int) : Int → Option (Int ⊕ Bool) := fun i =>
 cond (decide (i < (a.length:Int))) (
  rq (0 ≤ i ∧ i < a.length) <|
  rq (0 ≤ i ∧ i < b.length) <|
  cond ((a.getD i.toNat 0) != (b.getD i.toNat 0)) (
   some (.inr false)) (
   rq (i64 (i + (1:Int))) <|
   some (.inl (i + (1:Int))))) (
  some (.inr true))

noncomputable def laws_eqIntS (a : List Int) (b : List Int) : Option Bool :=
 cond ((a.length:Int) != (b.length:Int)) (
  some false) (
  loop (laws_eqIntS_l1 a b) (0:Int))

/-- laws.markTermS -/
noncomputable def laws_markTermS__d_j1 (k_1 : Int) (i : Int) : (List D1_) → Option ((Int × Int × (List D1_)) ⊕ (Int × (List D1_))) := fun a3 =>
 rq (i64 ((k_1 + (1:Int)) + (1:Int))) <|
 rq (i64 (i + (1:Int))) <|
 some (.inl (((k_1 + (1:Int)) + (1:Int)), (i + (1:Int)), a3))

noncomputable def laws_markTermS__d_l1 : Int × Int × (List D1_) → Option ((Int × Int × (List D1_)) ⊕ (Int × (List D1_))) := fun (k_1, i, a2) =>
 cond (decide (i < (a2.length:Int))) (
  rq (0 ≤ i ∧ i < a2.length) <|
  rq (i64 (k_1 + (1:Int))) <|
  rq (0 ≤ i ∧ i < (a2.set i.toNat (k_1, (a2.getD i.toNat (0, 0)).2)).length) <|
  laws_markTermS__d_j1 k_1 i ((a2.set i.toNat (k_1, (a2.getD i.toNat (0, 0)).2)).set i.toNat (((a2.set i.toNat (k_1, (a2.getD i.toNat (0, 0)).2)).getD i.toNat (0, 0)).1, (k_1 + (1:Int))))) (
  some (.inr (k_1, a2)))

noncomputable def laws_markTermS__d (k_ : Int) (a : List D1_) : Option (Int × (List D1_)) :=
 loop (laws_markTermS__d_l1) (k_, (0:Int), a)

/-- laws.markConstraintS -/
noncomputable def laws_markConstraintS_l1 : Int × Int × (List D2_) → Option ((Int × Int × (List D2_)) ⊕ (Int × (List D2_))) := fun (k_1, i, a1) =>
 cond (decide (i < (a1.length:Int))) (
  rq (0 ≤ i ∧ i < a1.length) <|
  (laws_markTermS__d k_1 (a1.getD i.toNat ([], 0)).1).bind fun r2_ =>
  rq (0 ≤ i ∧ i < a1.length) <|
  rq (i64 (r2_.1 + (1:Int))) <|
  rq (i64 (i + (1:Int))) <|
  some (.inl ((r2_.1 + (1:Int)), (i + (1:Int)), ((a1.set i.toNat ((a1.getD i.toNat ([], 0)).1, r2_.1)).set i.toNat (r2_.2, ((a1.set i.toNat ((a1.getD i.toNat ([], 0)).1, r2_.1)).getD i.toNat ([], 0)).2))))) (
  some (.inr (k_1, a1)))

noncomputable def laws_markConstraintS (k_ : Int) (a : List D2_) : Option (Int × (List D2_)) :=
 loop (laws_markConstraintS_l1) (k_, (0:Int), a)

/-- laws.markIntS -/
noncomputable def laws_markIntS_l1 : Int × Int × (List Int) → Option ((Int × Int × (List Int)) ⊕ (Int × (List Int))) := fun (k_1, i, a1) =>
 cond (decide (i < (a1.length:Int))) (
  rq (0 ≤ i ∧ i < a1.length) <|
  rq (i64 (k_1 + (1:Int))) <|
  rq (i64 (i + (1:Int))) <|
  some (.inl ((k_1 + (1:Int)), (i + (1:Int)), (a1.set i.toNat k_1)))) (
  some (.inr (k_1, a1)))

noncomputable def laws_markIntS (k_ : Int) (a : List Int) : Option (Int × (List Int)) :=
 loop (laws_markIntS_l1) (k_, (0:Int), a)

/-- laws.markBoolS -/
noncomputable def laws_markBoolS_l1 : Int × Int × (List Bool) → Option ((Int × Int × (List Bool)) ⊕ (Int × (List Bool))) := fun (k_1, i, a1) =>
 cond (decide (i < (a1.length:Int))) (
  rq (1 ≤ (3:Int) ∧ 0 ≤ k_1) <|
  rq (0 ≤ i ∧ i < a1.length) <|
  rq (i64 (k_1 + (1:Int))) <|
  rq (i64 (i + (1:Int))) <|
  some (.inl ((k_1 + (1:Int)), (i + (1:Int)), (a1.set i.toNat ((k_1 % (3:Int)) == (0:Int)))))) (
  some (.inr (k_1, a1)))

noncomputable def laws_markBoolS (k_ : Int) (a : List Bool) : Option (Int × (List Bool)) :=
 loop (laws_markBoolS_l1) (k_, (0:Int), a)

/-- laws.markStepS -/
noncomputable def laws_markStepS_j3 (i : Int) (r2_ : Int × (List D1_)) : (List D5_) → Option ((Int × Int × (List D5_)) ⊕ (Int × (List D5_))) := fun a7 =>
 rq (i64 (r2_.1 + (1:Int))) <|
 rq (i64 (i + (1:Int))) <|
 some (.inl ((r2_.1 + (1:Int)), (i + (1:Int)), a7))

noncomputable def laws_markStepS_j2 (k_1 : Int) (i : Int) : (List D5_) → Option ((Int × Int × (List D5_)) ⊕ (Int × (List D5_))) := fun a6 =>
 rq (i64 (((k_1 + (1:Int)) + (1:Int)) + (1:Int))) <|
 rq (0 ≤ i ∧ i < a6.length) <|
 (laws_markTermS__d (((k_1 + (1:Int)) + (1:Int)) + (1:Int)) (a6.getD i.toNat (0, (0, (0, ([], 0))))).2.2.2.1).bind fun r2_ =>
 rq (0 ≤ i ∧ i < a6.length) <|
 laws_markStepS_j3 i r2_ ((a6.set i.toNat ((a6.getD i.toNat (0, (0, (0, ([], 0))))).1, ((a6.getD i.toNat (0, (0, (0, ([], 0))))).2.1, ((a6.getD i.toNat (0, (0, (0, ([], 0))))).2.2.1, ((a6.getD i.toNat (0, (0, (0, ([], 0))))).2.2.2.1, r2_.1))))).set i.toNat (((a6.set i.toNat ((a6.getD i.toNat (0, (0, (0, ([], 0))))).1, ((a6.getD i.toNat (0, (0, (0, ([], 0))))).2.1, ((a6.getD i.toNat (0, (0, (0, ([], 0))))).2.2.1, ((a6.getD i.toNat (0, (0, (0, ([], 0))))).2.2.2.1, r2_.1))))).getD i.toNat (0, (0, (0, ([], 0))))).1, (((a6.set i.toNat ((a6.getD i.toNat (0, (0, (0, ([], 0))))).1, ((a6.getD i.toNat (0, (0, (0, ([], 0))))).2.1, ((a6.getD i.toNat (0, (0, (0, ([], 0))))).2.2.1, ((a6.getD i.toNat (0, (0, (0, ([], 0))))).2.2.2.1, r2_.1))))).getD i.toNat (0, (0, (0, ([], 0))))).2.1, (((a6.set i.toNat ((a6.getD i.toNat (0, (0, (0, ([], 0))))).1, ((a6.getD i.toNat (0, (0, (0, ([], 0))))).2.1, ((a6.getD i.toNat (0, (0, (0, ([], 0))))).2.2.1, ((a6.getD i.toNat (0, (0, (0, ([], 0))))).2.2.2.1, r2_.1))))).getD i.toNat (0, (0, (0, ([], 0))))).2.2.1, (r2_.2, ((a6.set i.toNat ((a6.getD i.toNat (0, (0, (0, ([], 0))))).1, ((a6.getD i.toNat (0, (0, (0, ([], 0))))).2.1, ((a6.getD i.toNat (0, (0, (0, ([], 0))))).2.2.1, ((a6.getD i.toNat (0, (0, (0, ([], 0))))).2.2.2.1, r2_.1))))).getD i.toNat (0, (0, (0, ([], 0))))).2.2.2.2)))))

noncomputable def laws_markStepS_j1 (k_1 : Int) (i : Int) : (List D5_) → Option ((Int × Int × (List D5_)) ⊕ (Int × (List D5_))) := fun a5 =>
 rq (i64 ((k_1 + (1:Int)) + (1:Int))) <|
 rq (0 ≤ i ∧ i < a5.length) <|
 laws_markStepS_j2 k_1 i (a5.set i.toNat ((a5.getD i.toNat (0, (0, (0, ([], 0))))).1, ((a5.getD i.toNat (0, (0, (0, ([], 0))))).2.1, (((k_1 + (1:Int)) + (1:Int)), (a5.getD i.toNat (0, (0, (0, ([], 0))))).2.2.2))))

noncomputable def laws_markStepS_l1 : Int × Int × (List D5_) → Option ((Int × Int × (List D5_)) ⊕ (Int × (List D5_))) := fun (k_1, i, a4) =>
 cond (decide (i < (a4.length:Int))) (
  rq (0 ≤ i ∧ i < a4.length) <|
  rq (i64 (k_1 + (1:Int))) <|
  rq (0 ≤ i ∧ i < (a4.set i.toNat (k_1, (a4.getD i.toNat (0, (0, (0, ([], 0))))).2)).length) <|
  laws_markStepS_j1 k_1 i ((a4.set i.toNat (k_1, (a4.getD i.toNat (0, (0, (0, ([], 0))))).2)).set i.toNat (((a4.set i.toNat (k_1, (a4.getD i.toNat (0, (0, (0, ([], 0))))).2)).getD i.toNat (0, (0, (0, ([], 0))))).1, ((k_1 + (1:Int)), ((a4.set i.toNat (k_1, (a4.getD i.toNat (0, (0, (0, ([], 0))))).2)).getD i.toNat (0, (0, (0, ([], 0))))).2.2)))) (
  some (.inr (k_1, a4)))

noncomputable def laws_markStepS (k_ : Int) (a : List D5_) : Option (Int × (List D5_)) :=
 loop (laws_markStepS_l1) (k_, (0:Int), a)

/-- laws.heldBoolS -/
noncomputable def laws_heldBoolS_l1 (a : List Bool) : Int × Int → Option ((Int × Int) ⊕ Int) := fun (k_1, i) =>
 cond (decide (i < (a.length:Int))) (
  rq (0 ≤ i ∧ i < a.length) <|
  rq (1 ≤ (3:Int) ∧ 0 ≤ k_1) <|
  cond ((a.getD i.toNat false) != ((k_1 % (3:Int)) == (0:Int))) (
   some (.inr (-1:Int))) (
   rq (i64 (k_1 + (1:Int))) <|
   rq (i64 (i + (1:Int))) <|
   some (.inl ((k_1 + (1:Int)), (i + (1:Int)))))) (
  some (.inr k_1))

noncomputable def laws_heldBoolS (a : List Bool) (k_ : Int) : Option Int :=
 loop (laws_heldBoolS_l1 a) (k_, (0:Int))

/-- laws.heldTermS -/
noncomputable def laws_heldTermS_l1 (a : List D1_) : Int × Int → Option ((Int × Int) ⊕ Int) := fun (k_1, i) =>
 cond (decide (i < (a.length:Int))) (
  rq (0 ≤ i ∧ i < a.length) <|
  cond ((a.getD i.toNat (0, 0)).1 != k_1) (
   some (.inr (-1:Int))) (
   rq (i64 (k_1 + (1:Int))) <|
   rq (0 ≤ i ∧ i < a.length) <|
   cond ((a.getD i.toNat (0, 0)).2 != (k_1 + (1:Int))) (
    some (.inr (-1:Int))) (
    rq (i64 ((k_1 + (1:Int)) + (1:Int))) <|
    rq (i64 (i + (1:Int))) <|
    some (.inl (((k_1 + (1:Int)) + (1:Int)), (i + (1:Int))))))) (
  some (.inr k_1))

noncomputable def laws_heldTermS (a : List D1_) (k_ : Int) : Option Int :=
 loop (laws_heldTermS_l1 a) (k_, (0:Int))

/-- laws.heldStepS -/
noncomputable def laws_heldStepS_l1 (a : List D5_) : Int × Int → Option ((Int × Int) ⊕ Int) := fun (k_1, i) =>
 cond (decide (i < (a.length:Int))) (
  rq (0 ≤ i ∧ i < a.length) <|
  cond ((a.getD i.toNat (0, (0, (0, ([], 0))))).1 != k_1) (
   some (.inr (-1:Int))) (
   rq (i64 (k_1 + (1:Int))) <|
   rq (0 ≤ i ∧ i < a.length) <|
   cond ((a.getD i.toNat (0, (0, (0, ([], 0))))).2.1 != (k_1 + (1:Int))) (
    some (.inr (-1:Int))) (
    rq (i64 ((k_1 + (1:Int)) + (1:Int))) <|
    rq (0 ≤ i ∧ i < a.length) <|
    cond ((a.getD i.toNat (0, (0, (0, ([], 0))))).2.2.1 != ((k_1 + (1:Int)) + (1:Int))) (
     some (.inr (-1:Int))) (
     rq (i64 (((k_1 + (1:Int)) + (1:Int)) + (1:Int))) <|
     rq (0 ≤ i ∧ i < a.length) <|
     (laws_heldTermS (a.getD i.toNat (0, (0, (0, ([], 0))))).2.2.2.1 (((k_1 + (1:Int)) + (1:Int)) + (1:Int))).bind fun r1_ =>
     cond (decide (r1_ < (0:Int))) (
      some (.inr (-1:Int))) (
      rq (0 ≤ i ∧ i < a.length) <|
      cond ((a.getD i.toNat (0, (0, (0, ([], 0))))).2.2.2.2 != r1_) (
       some (.inr (-1:Int))) (
       rq (i64 (r1_ + (1:Int))) <|
       rq (i64 (i + (1:Int))) <|
       some (.inl ((r1_ + (1:Int)), (i + (1:Int)))))))))) (
  some (.inr k_1))

noncomputable def laws_heldStepS (a : List D5_) (k_ : Int) : Option Int :=
 loop (laws_heldStepS_l1 a) (k_, (0:Int))

/-- laws.FnExactSolveCubes -/
noncomputable def laws_FnExactSolveCubes (a0 : List D2_) (a1 : List Int) (a2 : Int) : Option Bool :=
 cond (decide ((1048576:Int) < (a1.length:Int))) (
  some true) (
  (laws_szConstraintS a0 (1048576:Int)).bind fun r1_ =>
  cond (decide (r1_ < (0:Int))) (
   some true) (
   (laws_toConstraintS a0).bind fun r2_ =>
   (laws_toIntS a1).bind fun r3_ =>
   (spec_SolveCubes r2_ r3_ a2).bind fun r4_ =>
   (laws_toConstraintS a0).bind fun r5_ =>
   (laws_toIntS a1).bind fun r6_ =>
   (impl_SolveCubes r5_ r6_ a2).bind fun r7_ =>
   cond (r7_.1 != r4_.1) (
    some false) (
    (laws_eqBoolS r7_.2.1 r4_.2.1).bind fun r8_ =>
    cond (!r8_) (
     some false) (
     (laws_eqStepS r7_.2.2 r4_.2.2).bind fun r9_ =>
     cond (!r9_) (
      some false) (
      (laws_toConstraintS a0).bind fun r10_ =>
      (laws_eqConstraintS r5_ r10_).bind fun r11_ =>
      cond (!r11_) (
       some false) (
       (laws_toIntS a1).bind fun r12_ =>
       (laws_eqIntS r6_ r12_).bind fun r13_ =>
       cond (!r13_) (
        some false) (
        (laws_markConstraintS (1:Int) r5_).bind fun r14_ =>
        (laws_markIntS r14_.1 r6_).bind fun r15_ =>
        cond (decide (r15_.1 < (0:Int))) (
         some false) (
         cond (r7_.1 != r4_.1) (
          some false) (
          (laws_eqBoolS r7_.2.1 r4_.2.1).bind fun r16_ =>
          cond (!r16_) (
           some false) (
           (laws_eqStepS r7_.2.2 r4_.2.2).bind fun r17_ =>
           cond (!r17_) (
            some false) (
            (laws_markBoolS (1:Int) r7_.2.1).bind fun r18_ =>
            (laws_markStepS r18_.1 r7_.2.2).bind fun r19_ =>
            (laws_heldBoolS r18_.2 (1:Int)).bind fun r20_ =>
            cond (decide (r20_ < (0:Int))) (
             some false) (
             (laws_heldStepS r19_.2 r20_).bind fun r21_ =>
             cond (decide (r21_ < (0:Int))) (
              some false) (
              cond (r21_ != r19_.1) (
               some false) (
               (laws_toConstraintS a0).bind fun r22_ =>
               (laws_toIntS a1).bind fun r23_ =>
               (impl_SolveCubes r22_ r23_ a2).bind fun r24_ =>
               cond (r24_.1 != r4_.1) (
                some false) (
                (laws_eqBoolS r24_.2.1 r4_.2.1).bind fun r25_ =>
                cond (!r25_) (
                 some false) (
                 (laws_eqStepS r24_.2.2 r4_.2.2).bind fun r26_ =>
                 cond (!r26_) (
                  some false) (
                  (laws_heldBoolS r18_.2 (1:Int)).bind fun r27_ =>
                  cond (decide (r27_ < (0:Int))) (
                   some false) (
                   (laws_heldStepS r19_.2 r27_).bind fun r28_ =>
                   cond (decide (r28_ < (0:Int))) (
                    some false) (
                    cond (r28_ != r19_.1) (
                     some false) (
                     some true))))))))))))))))))))

end Go.AE.Y
