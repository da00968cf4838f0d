/-
  Models of the functions: what each computes, as a Lean function into Option. Definitions alone.
-/
import Derived.Test.YtaeeiddjpigemaaGreatAEx3
namespace Go.AE.Y
open Go Go.AE
set_option linter.unusedVariables false

abbrev y0_ : Ty := (.int .i64)
abbrev y1_ : Ty := (.pair y0_ y0_)
abbrev D1_ : Type := Int × Int
abbrev y2_ : Ty := (.pair (.sl y1_) y0_)
abbrev D2_ : Type := (List (Int × Int)) × Int
abbrev y3_ : Ty := (.pair y0_ y2_)
abbrev D3_ : Type := Int × (List (Int × Int)) × Int
abbrev y4_ : Ty := (.pair y0_ y3_)
abbrev D4_ : Type := Int × Int × (List (Int × Int)) × Int
abbrev y5_ : Ty := (.pair y0_ y4_)
abbrev D5_ : Type := Int × Int × Int × (List (Int × Int)) × Int

/-- laws.szTermS -/
noncomputable def laws_szTermS (a : List D1_) (left : Int) : Option Int :=
 rq (i64 (left - (a.length:Int))) <|
 cond (decide ((left - (a.length:Int)) < (0:Int))) (
  some (-1:Int)) (
  some (left - (a.length:Int)))

/-- laws.szConstraint -/
noncomputable def laws_szConstraint (a : (List D1_) × Int) (left : Int) : Option Int :=
 (laws_szTermS a.1 left).bind fun r1_ =>
 cond (decide (r1_ < (0:Int))) (
  some (-1:Int)) (
  some r1_)

/-- laws.szConstraintS -/
noncomputable def laws_szConstraintS_l1 (a : List D2_) : Int × Int → Option ((Int × Int) ⊕ Int) := fun (left1, i) =>
 cond (decide (i < (a.length:Int))) (
  rq (0 ≤ i ∧ i < a.length) <|
  (laws_szConstraint (a.getD i.toNat ([], 0)) left1).bind fun r1_ =>
  cond (decide (r1_ < (0:Int))) (
   some (.inr (-1:Int))) (
   rq (i64 (i + (1:Int))) <|
   some (.inl (r1_, (i + (1:Int)))))) (
  some (.inr left1))

noncomputable def laws_szConstraintS (a : List D2_) (left : Int) : Option Int :=
 rq (i64 (left - (a.length:Int))) <|
 cond (decide ((left - (a.length:Int)) < (0:Int))) (
  some (-1:Int)) (
  loop (laws_szConstraintS_l1 a) ((left - (a.length:Int)), (0:Int)))

/-- laws.szStep -/
noncomputable def laws_szStep (a : Int × Int × Int × (List D1_) × Int) (left : Int) : Option Int :=
 (laws_szConstraint a.2.2.2 left).bind fun r1_ =>
 cond (decide (r1_ < (0:Int))) (
  some (-1:Int)) (
  some r1_)

/-- laws.szStepS -/
noncomputable def laws_szStepS_l1 (a : List D5_) : Int × Int → Option ((Int × Int) ⊕ Int) := fun (left1, i) =>
 cond (decide (i < (a.length:Int))) (
  rq (0 ≤ i ∧ i < a.length) <|
  (laws_szStep (a.getD i.toNat (0, (0, (0, ([], 0))))) left1).bind fun r1_ =>
  cond (decide (r1_ < (0:Int))) (
   some (.inr (-1:Int))) (
   rq (i64 (i + (1:Int))) <|
   some (.inl (r1_, (i + (1:Int)))))) (
  some (.inr left1))

noncomputable def laws_szStepS (a : List D5_) (left : Int) : Option Int :=
 rq (i64 (left - (a.length:Int))) <|
 cond (decide ((left - (a.length:Int)) < (0:Int))) (
  some (-1:Int)) (
  loop (laws_szStepS_l1 a) ((left - (a.length:Int)), (0:Int)))

/-- laws.toTerm -/
noncomputable def laws_toTerm (a : Int × Int) : Option D1_ :=
 some a

/-- laws.toTermS -/
noncomputable def laws_toTermS_l1 (a : List D1_) : Int × (List D1_) → Option ((Int × (List D1_)) ⊕ (List D1_)) := fun (i, out) =>
 cond (decide (i < (a.length:Int))) (
  rq (0 ≤ i ∧ i < a.length) <|
  (laws_toTerm (a.getD i.toNat (0, 0))).bind fun r2_ =>
  rq (0 ≤ i ∧ i < out.length) <|
  rq (i64 (i + (1:Int))) <|
  some (.inl ((i + (1:Int)), (out.set i.toNat r2_)))) (
  some (.inr out))

noncomputable def laws_toTermS (a : List D1_) : Option (List D1_) :=
 rq (0 ≤ (a.length:Int) ∧ (a.length:Int) ≤ bound ∧ (a.length:Int) = (a.length:Int)) <|
 loop (laws_toTermS_l1 a) ((0:Int), (List.replicate (a.length:Int).toNat (0, 0)))

/-- laws.toConstraint -/
noncomputable def laws_toConstraint (a : (List D1_) × Int) : Option (Int × (List D1_)) :=
 (laws_toTermS a.1).bind fun r1_ =>
 some (a.2, r1_)

/-- laws.toConstraintS -/
noncomputable def laws_toConstraintS_l1 (a : List D2_) : Int × (List D2_) → Option ((Int × (List D2_)) ⊕ (List D2_)) := fun (i, out) =>
 cond (decide (i < (a.length:Int))) (
  rq (0 ≤ i ∧ i < a.length) <|
  (laws_toConstraint (a.getD i.toNat ([], 0))).bind fun r2_ =>
  rq (0 ≤ i ∧ i < out.length) <|
  rq (i64 (i + (1:Int))) <|
  some (.inl ((i + (1:Int)), (out.set i.toNat (r2_.2, r2_.1))))) (
  some (.inr out))

noncomputable def laws_toConstraintS (a : List D2_) : Option (List D2_) :=
 rq (0 ≤ (a.length:Int) ∧ (a.length:Int) ≤ bound ∧ (a.length:Int) = (a.length:Int)) <|
 loop (laws_toConstraintS_l1 a) ((0:Int), (List.replicate (a.length:Int).toNat ([], 0)))

/-- laws.toStep -/
noncomputable def laws_toStep (a : Int × Int × Int × (List D1_) × Int) : Option (Int × Int × Int × Int × (List D1_)) :=
 (laws_toConstraint a.2.2.2).bind fun r1_ =>
 some (a.1, a.2.1, a.2.2.1, r1_.1, r1_.2)

/-- laws.toStepS -/
noncomputable def laws_toStepS_l1 (a : List D5_) : Int × (List D5_) → Option ((Int × (List D5_)) ⊕ (List D5_)) := fun (i, out) =>
 cond (decide (i < (a.length:Int))) (
  rq (0 ≤ i ∧ i < a.length) <|
  (laws_toStep (a.getD i.toNat (0, (0, (0, ([], 0)))))).bind fun r2_ =>
  rq (0 ≤ i ∧ i < out.length) <|
  rq (i64 (i + (1:Int))) <|
  some (.inl ((i + (1:Int)), (out.set i.toNat (r2_.1, (r2_.2.1, (r2_.2.2.1, (r2_.2.2.2.2, r2_.2.2.2.1)))))))) (
  some (.inr out))

noncomputable def laws_toStepS (a : List D5_) : Option (List D5_) :=
 rq (0 ≤ (a.length:Int) ∧ (a.length:Int) ≤ bound ∧ (a.length:Int) = (a.length:Int)) <|
 loop (laws_toStepS_l1 a) ((0:Int), (List.replicate (a.length:Int).toNat (0, (0, (0, ([], 0))))))

/-- spec.l1Lit -/
noncomputable def spec_l1Lit (n : Int) : Option Bool :=
 cond (n != (0:Int)) (
  cond (decide ((-12:Int) ≤ n)) (
   some (decide (n ≤ (12:Int)))) (
   some false)) (
  some false)

/-- spec.l1Abs -/
noncomputable def spec_l1Abs (n : Int) : Option Int :=
 cond (decide (n < (0:Int))) (
  rq (i64 (0 - n)) <|
  some (0 - n)) (
  some n)

/-- spec.ConstraintValid -/
noncomputable def spec_ConstraintValid_l1 (c_ : (List D1_) × Int) : Int → Option (Int ⊕ Bool) := fun i =>
 cond (decide (i < (c_.1.length:Int))) (
  rq (0 ≤ i ∧ i < c_.1.length) <|
  (spec_l1Lit (c_.1.getD i.toNat (0, 0)).2).bind fun r4_ =>
  cond (!r4_) (
   some (.inr false)) (
   cond (decide ((c_.1.getD i.toNat (0, 0)).1 < (1:Int))) (
    some (.inr false)) (
    cond (decide ((1000:Int) < (c_.1.getD i.toNat (0, 0)).1)) (
     some (.inr false)) (
     cond (decide ((0:Int) < i)) (
      rq (i64 (i - (1:Int))) <|
      rq (0 ≤ (i - (1:Int)) ∧ (i - (1:Int)) < c_.1.length) <|
      (spec_l1Abs (c_.1.getD (i - (1:Int)).toNat (0, 0)).2).bind fun r5_ =>
      (spec_l1Abs (c_.1.getD i.toNat (0, 0)).2).bind fun r6_ =>
      cond (decide (r6_ ≤ r5_)) (
       some (.inr false)) (
       rq (i64 (i + (1:Int))) <|
       some (.inl (i + (1:Int))))) (
      rq (i64 (i + (1:Int))) <|
      some (.inl (i + (1:Int)))))))) (
  cond (decide ((0:Int) ≤ c_.2)) (
   some (.inr (decide (c_.2 ≤ (20000:Int))))) (
   some (.inr false)))

noncomputable def spec_ConstraintValid (c_ : (List D1_) × Int) : Option Bool :=
 loop (spec_ConstraintValid_l1 c_) (0:Int)

/-- spec.ProblemValid -/
noncomputable def spec_ProblemValid_l1 (list_ : List D2_) : Int → Option (Int ⊕ Bool) := fun i =>
 cond (decide (i < (list_.length:Int))) (
  rq (0 ≤ i ∧ i < list_.length) <|
  (spec_ConstraintValid (list_.getD i.toNat ([], 0))).bind fun r1_ =>
  cond (!r1_) (
   some (.inr false)) (
   rq (i64 (i + (1:Int))) <|
   some (.inl (i + (1:Int))))) (
  some (.inr (decide ((list_.length:Int) ≤ (400:Int)))))

noncomputable def spec_ProblemValid (list_ : List D2_) : Option Bool :=
 loop (spec_ProblemValid_l1 list_) (0:Int)

/-- spec.l4Fits -/
noncomputable def spec_l4Fits (list_ : List D2_) (steps : List D5_) : Option Bool :=
 (spec_ProblemValid list_).bind fun r1_ =>
 cond r1_ (
  some (decide ((steps.length:Int) ≤ (1000:Int)))) (
  some false)

/-- spec.l4Parts -/
noncomputable def spec_l4Parts (s_ : Int × Int × Int × (List D1_) × Int) : Option Bool :=
 cond ((s_.2.2.2.1.length:Int) == (0:Int)) (
  cond (s_.1 == (1:Int)) (
   some (s_.2.2.2.2 == (0:Int))) (
   cond (s_.1 == (2:Int)) (
    some (s_.2.2.2.2 == (0:Int))) (
    cond (s_.1 == (3:Int)) (
     some (s_.2.2.2.2 == (0:Int))) (
     cond (s_.1 == (5:Int)) (
      some (s_.2.2.2.2 == (0:Int))) (
      cond (s_.1 == (4:Int)) (
       cond (s_.2.2.2.2 == (0:Int)) (
        some (s_.2.2.1 == (0:Int))) (
        some false)) (
       cond (s_.1 == (6:Int)) (
        cond (s_.2.2.2.2 == (0:Int)) (
         some (s_.2.2.1 == (0:Int))) (
         some false)) (
        cond (s_.1 == (8:Int)) (
         cond (s_.2.2.2.2 == (0:Int)) (
          some (s_.2.2.1 == (0:Int))) (
          some false)) (
         cond (s_.1 == (7:Int)) (
          cond (s_.2.1 == (0:Int)) (
           some (s_.2.2.1 == (0:Int))) (
           some false)) (
          some false))))))))) (
  cond (s_.1 == (1:Int)) (
   some false) (
   cond (s_.1 == (2:Int)) (
    some false) (
    cond (s_.1 == (3:Int)) (
     some false) (
     cond (s_.1 == (5:Int)) (
      some false) (
      cond (s_.1 == (4:Int)) (
       some false) (
       cond (s_.1 == (6:Int)) (
        some false) (
        cond (s_.1 == (8:Int)) (
         some false) (
         cond (s_.1 == (7:Int)) (
          cond (s_.2.1 == (0:Int)) (
           some (s_.2.2.1 == (0:Int))) (
           some false)) (
          some false)))))))))

/-- spec.l4Live -/
noncomputable def spec_l4Live (d : (List D2_) × (List Bool)) (k_ : Int) : Option Bool :=
 cond (decide ((0:Int) ≤ k_)) (
  cond (decide (k_ < (d.1.length:Int))) (
   rq (0 ≤ k_ ∧ k_ < d.2.length) <|
   some (!(d.2.getD k_.toNat false))) (
   some false)) (
  some false)

/-- spec.LiteralAxiom -/
noncomputable def spec_LiteralAxiom (lit : Int) : Option (Bool × Int × (List D1_)) :=
 (spec_l1Lit lit).bind fun r1_ =>
 cond (!r1_) (
  some (false, (0:Int), ([] : List D1_))) (
  some (true, (0:Int), [((1:Int), lit)]))

/-- spec.l1Copy -/
noncomputable def spec_l1Copy (c_ : (List D1_) × Int) : Option (Int × (List D1_)) :=
 rq (([] : List D1_).length + c_.1.length ≤ bound) <|
 some (c_.2, (([] : List D1_) ++ c_.1))

/-- spec.l4Kept -/
noncomputable def spec_l4Kept_l1 (d : (List D2_) × (List Bool)) : Int × (List D2_) → Option ((Int × (List D2_)) ⊕ (List D2_)) := fun (i, out) =>
 cond (decide (i < (d.1.length:Int))) (
  rq (0 ≤ i ∧ i < d.2.length) <|
  cond (!(d.2.getD i.toNat false)) (
   rq (0 ≤ i ∧ i < d.1.length) <|
   rq (out.length + [(d.1.getD i.toNat ([], 0))].length ≤ bound) <|
   rq (i64 (i + (1:Int))) <|
   some (.inl ((i + (1:Int)), (out ++ [(d.1.getD i.toNat ([], 0))])))) (
   rq (i64 (i + (1:Int))) <|
   some (.inl ((i + (1:Int)), out)))) (
  some (.inr out))

noncomputable def spec_l4Kept (d : (List D2_) × (List Bool)) : Option (List D2_) :=
 loop (spec_l4Kept_l1 d) ((0:Int), ([] : List D2_))

/-- spec.l1Total -/
noncomputable def spec_l1Total_l1 (c_ : (List D1_) × Int) : Int × Int → Option ((Int × Int) ⊕ Int) := fun (n, i) =>
 cond (decide (i < (c_.1.length:Int))) (
  rq (0 ≤ i ∧ i < c_.1.length) <|
  rq (i64 (n + (c_.1.getD i.toNat (0, 0)).1)) <|
  rq (i64 (i + (1:Int))) <|
  some (.inl ((n + (c_.1.getD i.toNat (0, 0)).1), (i + (1:Int))))) (
  some (.inr n))

noncomputable def spec_l1Total (c_ : (List D1_) × Int) : Option Int :=
 loop (spec_l1Total_l1 c_) ((0:Int), (0:Int))

/-- spec.NegateConstraint -/
noncomputable def spec_NegateConstraint_j3 (out_1 : Int) : (List D1_) → Option (Bool × Int × (List D1_)) := fun out_01 =>
 cond (decide (out_1 < (0:Int))) (
  some (true, (0:Int), out_01)) (
  some (true, out_1, out_01))

noncomputable def spec_NegateConstraint_l1 (c_ : (List D1_) × Int) (out_1 : Int) : Int × (List D1_) → Option ((Int × (List D1_)) ⊕ (Bool × Int × (List D1_))) := fun (i, out_0) =>
 cond (decide (i < (c_.1.length:Int))) (
  rq (0 ≤ i ∧ i < c_.1.length) <|
  rq (0 ≤ i ∧ i < c_.1.length) <|
  rq (i64 (0 - (c_.1.getD i.toNat (0, 0)).2)) <|
  rq (out_0.length + [((c_.1.getD i.toNat (0, 0)).1, (0 - (c_.1.getD i.toNat (0, 0)).2))].length ≤ bound) <|
  rq (i64 (i + (1:Int))) <|
  some (.inl ((i + (1:Int)), (out_0 ++ [((c_.1.getD i.toNat (0, 0)).1, (0 - (c_.1.getD i.toNat (0, 0)).2))])))) (
  up (spec_NegateConstraint_j3 out_1 out_0))

noncomputable def spec_NegateConstraint_j2 (c_ : (List D1_) × Int) : Int → Option (Bool × Int × (List D1_)) := fun out_1 =>
 loop (spec_NegateConstraint_l1 c_ out_1) ((0:Int), ([] : List D1_))

noncomputable def spec_NegateConstraint_j1 (c_ : (List D1_) × Int) : Unit → Option (Bool × Int × (List D1_)) := fun _ =>
 (spec_ConstraintValid c_).bind fun r1_ =>
 cond (!r1_) (
  some (false, (0:Int), ([] : List D1_))) (
  (spec_l1Total c_).bind fun r3_ =>
  rq (i64 (r3_ - c_.2)) <|
  rq (i64 ((r3_ - c_.2) + (1:Int))) <|
  spec_NegateConstraint_j2 c_ ((r3_ - c_.2) + (1:Int)))

noncomputable def spec_NegateConstraint (c_ : (List D1_) × Int) : Option (Bool × Int × (List D1_)) :=
 spec_NegateConstraint_j1 c_ ()

/-- spec.l3State -/
noncomputable def spec_l3State (p : List Int) (lit : Int) : Option Int :=
 cond (decide ((0:Int) < lit)) (
  rq (i64 (lit - (1:Int))) <|
  rq (0 ≤ (lit - (1:Int)) ∧ (lit - (1:Int)) < p.length) <|
  some (p.getD (lit - (1:Int)).toNat 0)) (
  rq (i64 (0 - lit)) <|
  rq (i64 ((0 - lit) - (1:Int))) <|
  rq (0 ≤ ((0 - lit) - (1:Int)) ∧ ((0 - lit) - (1:Int)) < p.length) <|
  rq (i64 (0 - (p.getD ((0 - lit) - (1:Int)).toNat 0))) <|
  some (0 - (p.getD ((0 - lit) - (1:Int)).toNat 0)))

/-- spec.l3Slack -/
noncomputable def spec_l3Slack_l1 (c_ : (List D1_) × Int) (p : List Int) : Int × Int → Option ((Int × Int) ⊕ Int) := fun (n, i) =>
 cond (decide (i < (c_.1.length:Int))) (
  rq (0 ≤ i ∧ i < c_.1.length) <|
  (spec_l3State p (c_.1.getD i.toNat (0, 0)).2).bind fun r1_ =>
  cond (decide ((0:Int) ≤ r1_)) (
   rq (0 ≤ i ∧ i < c_.1.length) <|
   rq (i64 (n + (c_.1.getD i.toNat (0, 0)).1)) <|
   rq (i64 (i + (1:Int))) <|
   some (.inl ((n + (c_.1.getD i.toNat (0, 0)).1), (i + (1:Int))))) (
   rq (i64 (i + (1:Int))) <|
   some (.inl (n, (i + (1:Int)))))) (
  some (.inr n))

noncomputable def spec_l3Slack (c_ : (List D1_) × Int) (p : List Int) : Option Int :=
 rq (i64 (0 - c_.2)) <|
 loop (spec_l3Slack_l1 c_ p) ((0 - c_.2), (0:Int))

/-- spec.l3Implied -/
noncomputable def spec_l3Implied_l1 (c_ : (List D1_) × Int) (p : List Int) (r1_ : Int) : Int × (List Int) → Option ((Int × (List Int)) ⊕ (List Int)) := fun (i, out) =>
 cond (decide (i < (c_.1.length:Int))) (
  cond (decide ((0:Int) ≤ r1_)) (
   rq (0 ≤ i ∧ i < c_.1.length) <|
   (spec_l3State p (c_.1.getD i.toNat (0, 0)).2).bind fun r3_ =>
   cond (r3_ == (0:Int)) (
    rq (0 ≤ i ∧ i < c_.1.length) <|
    cond (decide (r1_ < (c_.1.getD i.toNat (0, 0)).1)) (
     rq (0 ≤ i ∧ i < c_.1.length) <|
     rq (out.length + [(c_.1.getD i.toNat (0, 0)).2].length ≤ bound) <|
     rq (i64 (i + (1:Int))) <|
     some (.inl ((i + (1:Int)), (out ++ [(c_.1.getD i.toNat (0, 0)).2])))) (
     rq (i64 (i + (1:Int))) <|
     some (.inl ((i + (1:Int)), out)))) (
    rq (i64 (i + (1:Int))) <|
    some (.inl ((i + (1:Int)), out)))) (
   some (.inr out))) (
  some (.inr out))

noncomputable def spec_l3Implied (c_ : (List D1_) × Int) (p : List Int) : Option (List Int) :=
 (spec_l3Slack c_ p).bind fun r1_ =>
 loop (spec_l3Implied_l1 c_ p r1_) ((0:Int), ([] : List Int))

/-- spec.l3Assign -/
noncomputable def spec_l3Assign (lit : Int) (p : List Int) : Option (List Int) :=
 cond (decide ((0:Int) < lit)) (
  rq (i64 (lit - (1:Int))) <|
  rq (0 ≤ (lit - (1:Int)) ∧ (lit - (1:Int)) < p.length) <|
  some (p.set (lit - (1:Int)).toNat (1:Int))) (
  rq (i64 (0 - lit)) <|
  rq (i64 ((0 - lit) - (1:Int))) <|
  rq (0 ≤ ((0 - lit) - (1:Int)) ∧ ((0 - lit) - (1:Int)) < p.length) <|
  some (p.set ((0 - lit) - (1:Int)).toNat (-1:Int)))

/-- spec.l3Propagate -/
noncomputable def spec_l3Propagate_l3 (i1 : Int) (r14_ : (List Int)) : Bool × Int × (List Int) → Option ((Bool × Int × (List Int)) ⊕ ((Bool × Int × (List Int)) ⊕ ((Bool × (List Int)) ⊕ (Int × (List Int))))) := fun (changed6, k_3, p7) =>
 cond (decide (k_3 < (r14_.length:Int))) (
  rq (0 ≤ k_3 ∧ k_3 < r14_.length) <|
  (spec_l3Assign (r14_.getD k_3.toNat 0) p7).bind fun r16_ =>
  rq (i64 (k_3 + (1:Int))) <|
  some (.inl (true, (k_3 + (1:Int)), r16_))) (
  rq (i64 (i1 + (1:Int))) <|
  some (.inr (.inl (changed6, (i1 + (1:Int)), p7))))

noncomputable def spec_l3Propagate_l2 (list_ : List D2_) : Bool × Int × (List Int) → Option ((Bool × Int × (List Int)) ⊕ ((Bool × (List Int)) ⊕ (Int × (List Int)))) := fun (changed4, i1, p6) =>
 cond (decide (i1 < (list_.length:Int))) (
  rq (0 ≤ i1 ∧ i1 < list_.length) <|
  (spec_l3Slack (list_.getD i1.toNat ([], 0)) p6).bind fun r13_ =>
  cond (decide (r13_ < (0:Int))) (
   some (.inr (.inr (i1, p6)))) (
   rq (0 ≤ i1 ∧ i1 < list_.length) <|
   (spec_l3Implied (list_.getD i1.toNat ([], 0)) p6).bind fun r14_ =>
   loop (spec_l3Propagate_l3 i1 r14_) (changed4, (0:Int), p6))) (
  some (.inr (.inl (changed4, p6))))

noncomputable def spec_l3Propagate_l1 (list_ : List D2_) : Bool × (List Int) → Option ((Bool × (List Int)) ⊕ (Int × (List Int))) := fun (changed, p4) =>
 cond changed (
  loop (spec_l3Propagate_l2 list_) (false, (0:Int), p4)) (
  some (.inr ((-1:Int), p4)))

noncomputable def spec_l3Propagate (list_ : List D2_) (p : List Int) : Option (Int × (List Int)) :=
 loop (spec_l3Propagate_l1 list_) (true, p)

/-- spec.l3Rup -/
noncomputable def spec_l3Rup_j1 (list_ : List D2_) (r1_ : Bool × Int × (List D1_)) : Unit → Option Bool := fun _ =>
 rq (0 ≤ (12:Int) ∧ (12:Int) ≤ bound ∧ (12:Int) = (12:Int)) <|
 (spec_l3Propagate ((([] : List D2_) ++ list_) ++ [(r1_.2.2, r1_.2.1)]) (List.replicate (12:Int).toNat 0)).bind fun r2_ =>
 some (decide ((0:Int) ≤ r2_.1))

noncomputable def spec_l3Rup (list_ : List D2_) (c_ : (List D1_) × Int) : Option Bool :=
 (spec_NegateConstraint c_).bind fun r1_ =>
 rq (([] : List D2_).length + list_.length ≤ bound) <|
 rq ((([] : List D2_) ++ list_).length + [(r1_.2.2, r1_.2.1)].length ≤ bound) <|
 spec_l3Rup_j1 list_ r1_ ()

/-- spec.l1Net -/
noncomputable def spec_l1Net_j1 : Int × (List Int) → Option (Int × (List Int)) := fun (bound_2, net2) =>
 some (bound_2, net2)

noncomputable def spec_l1Net_j2 (terms : List D1_) (bound_1 : Int) (i : Int) (net1 : List Int) : Unit → Option ((Int × Int × (List Int)) ⊕ (Int × (List Int))) := fun _ =>
 rq (i64 (bound_1 - (terms.getD i.toNat (0, 0)).1)) <|
 rq (i64 (i + (1:Int))) <|
 some (.inl ((bound_1 - (terms.getD i.toNat (0, 0)).1), (i + (1:Int)), (net1.set (0 - (terms.getD i.toNat (0, 0)).2).toNat ((net1.getD (0 - (terms.getD i.toNat (0, 0)).2).toNat 0) - (terms.getD i.toNat (0, 0)).1))))

noncomputable def spec_l1Net_l1 (terms : List D1_) : Int × Int × (List Int) → Option ((Int × Int × (List Int)) ⊕ (Int × (List Int))) := fun (bound_1, i, net1) =>
 cond (decide (i < (terms.length:Int))) (
  rq (0 ≤ i ∧ i < terms.length) <|
  cond (decide ((0:Int) < (terms.getD i.toNat (0, 0)).2)) (
   rq (0 ≤ (terms.getD i.toNat (0, 0)).2 ∧ (terms.getD i.toNat (0, 0)).2 < net1.length) <|
   rq (i64 ((net1.getD (terms.getD i.toNat (0, 0)).2.toNat 0) + (terms.getD i.toNat (0, 0)).1)) <|
   rq (0 ≤ (terms.getD i.toNat (0, 0)).2 ∧ (terms.getD i.toNat (0, 0)).2 < net1.length) <|
   rq (i64 (i + (1:Int))) <|
   some (.inl (bound_1, (i + (1:Int)), (net1.set (terms.getD i.toNat (0, 0)).2.toNat ((net1.getD (terms.getD i.toNat (0, 0)).2.toNat 0) + (terms.getD i.toNat (0, 0)).1))))) (
   rq (i64 (0 - (terms.getD i.toNat (0, 0)).2)) <|
   rq (i64 (0 - (terms.getD i.toNat (0, 0)).2)) <|
   rq (0 ≤ (0 - (terms.getD i.toNat (0, 0)).2) ∧ (0 - (terms.getD i.toNat (0, 0)).2) < net1.length) <|
   rq (i64 ((net1.getD (0 - (terms.getD i.toNat (0, 0)).2).toNat 0) - (terms.getD i.toNat (0, 0)).1)) <|
   rq (0 ≤ (0 - (terms.getD i.toNat (0, 0)).2) ∧ (0 - (terms.getD i.toNat (0, 0)).2) < net1.length) <|
   spec_l1Net_j2 terms bound_1 i net1 ())) (
  up (spec_l1Net_j1 (bound_1, net1)))

noncomputable def spec_l1Net (terms : List D1_) (bound_ : Int) : Option (Int × (List Int)) :=
 rq (0 ≤ (13:Int) ∧ (13:Int) ≤ bound ∧ (13:Int) = (13:Int)) <|
 loop (spec_l1Net_l1 terms) (bound_, (0:Int), (List.replicate (13:Int).toNat 0))

/-- spec.l1Normal -/
noncomputable def spec_l1Normal_j2 (c_03 : List D1_) : Int → Option (Bool × Int × (List D1_)) := fun bound_3 =>
 (spec_ConstraintValid (c_03, bound_3)).bind fun r1_ =>
 cond (!r1_) (
  some (false, (0:Int), ([] : List D1_))) (
  some (true, bound_3, c_03))

noncomputable def spec_l1Normal_j1 : Int × (List D1_) → Option (Bool × Int × (List D1_)) := fun (bound_2, c_03) =>
 cond (decide (bound_2 < (0:Int))) (
  spec_l1Normal_j2 c_03 (0:Int)) (
  spec_l1Normal_j2 c_03 bound_2)

noncomputable def spec_l1Normal_j4 (net : List Int) (bound_1 : Int) (v : Int) (c_02 : List D1_) : Unit → Option ((Int × Int × (List D1_)) ⊕ (Bool × Int × (List D1_))) := fun _ =>
 rq (0 ≤ v ∧ v < net.length) <|
 rq (i64 (bound_1 - (net.getD v.toNat 0))) <|
 rq (i64 (v + (1:Int))) <|
 some (.inl ((bound_1 - (net.getD v.toNat 0)), (v + (1:Int)), (c_02 ++ [((0 - (net.getD v.toNat 0)), (0 - v))])))

noncomputable def spec_l1Normal_j3 (net : List Int) (bound_1 : Int) (v : Int) : (List D1_) → Option ((Int × Int × (List D1_)) ⊕ (Bool × Int × (List D1_))) := fun c_02 =>
 rq (0 ≤ v ∧ v < net.length) <|
 cond (decide ((net.getD v.toNat 0) < (0:Int))) (
  rq (0 ≤ v ∧ v < net.length) <|
  rq (i64 (0 - (net.getD v.toNat 0))) <|
  rq (i64 (0 - v)) <|
  rq (c_02.length + [((0 - (net.getD v.toNat 0)), (0 - v))].length ≤ bound) <|
  spec_l1Normal_j4 net bound_1 v c_02 ()) (
  rq (i64 (v + (1:Int))) <|
  some (.inl (bound_1, (v + (1:Int)), c_02)))

noncomputable def spec_l1Normal_l1 (net : List Int) : Int × Int × (List D1_) → Option ((Int × Int × (List D1_)) ⊕ (Bool × Int × (List D1_))) := fun (bound_1, v, c_01) =>
 cond (decide (v ≤ (12:Int))) (
  rq (0 ≤ v ∧ v < net.length) <|
  cond (decide ((0:Int) < (net.getD v.toNat 0))) (
   rq (0 ≤ v ∧ v < net.length) <|
   rq (c_01.length + [((net.getD v.toNat 0), v)].length ≤ bound) <|
   spec_l1Normal_j3 net bound_1 v (c_01 ++ [((net.getD v.toNat 0), v)])) (
   spec_l1Normal_j3 net bound_1 v c_01)) (
  up (spec_l1Normal_j1 (bound_1, c_01)))

noncomputable def spec_l1Normal (net : List Int) (bound_ : Int) : Option (Bool × Int × (List D1_)) :=
 loop (spec_l1Normal_l1 net) (bound_, (1:Int), ([] : List D1_))

/-- spec.AddConstraints -/
noncomputable def spec_AddConstraints_j1 (a : (List D1_) × Int) (b : (List D1_) × Int) : Unit → Option (Bool × Int × (List D1_)) := fun _ =>
 (spec_ConstraintValid a).bind fun r1_ =>
 cond (!r1_) (
  some (false, (0:Int), ([] : List D1_))) (
  (spec_ConstraintValid b).bind fun r2_ =>
  cond (!r2_) (
   some (false, (0:Int), ([] : List D1_))) (
   rq (i64 (a.2 + b.2)) <|
   rq (([] : List D1_).length + a.1.length ≤ bound) <|
   rq ((([] : List D1_) ++ a.1).length + b.1.length ≤ bound) <|
   (spec_l1Net ((([] : List D1_) ++ a.1) ++ b.1) (a.2 + b.2)).bind fun r4_ =>
   (spec_l1Normal r4_.2 r4_.1).bind fun r5_ =>
   some (r5_.1, r5_.2.1, r5_.2.2)))

noncomputable def spec_AddConstraints (a : (List D1_) × Int) (b : (List D1_) × Int) : Option (Bool × Int × (List D1_)) :=
 spec_AddConstraints_j1 a b ()

/-- spec.MultiplyConstraint -/
noncomputable def spec_MultiplyConstraint_j1 (c_ : (List D1_) × Int) (k_ : Int) : (List D1_) → Option (Bool × Int × (List D1_)) := fun out_01 =>
 (spec_ConstraintValid (out_01, (c_.2 * k_))).bind fun r2_ =>
 cond (!r2_) (
  some (false, (0:Int), ([] : List D1_))) (
  some (true, (c_.2 * k_), out_01))

noncomputable def spec_MultiplyConstraint_l1 (c_ : (List D1_) × Int) (k_ : Int) : Int × (List D1_) → Option ((Int × (List D1_)) ⊕ (Bool × Int × (List D1_))) := fun (i, out_0) =>
 cond (decide (i < (c_.1.length:Int))) (
  rq (0 ≤ i ∧ i < c_.1.length) <|
  rq (i64 ((c_.1.getD i.toNat (0, 0)).1 * k_)) <|
  rq (0 ≤ i ∧ i < c_.1.length) <|
  rq (out_0.length + [(((c_.1.getD i.toNat (0, 0)).1 * k_), (c_.1.getD i.toNat (0, 0)).2)].length ≤ bound) <|
  rq (i64 (i + (1:Int))) <|
  some (.inl ((i + (1:Int)), (out_0 ++ [(((c_.1.getD i.toNat (0, 0)).1 * k_), (c_.1.getD i.toNat (0, 0)).2)])))) (
  up (spec_MultiplyConstraint_j1 c_ k_ out_0))

noncomputable def spec_MultiplyConstraint (c_ : (List D1_) × Int) (k_ : Int) : Option (Bool × Int × (List D1_)) :=
 (spec_ConstraintValid c_).bind fun r1_ =>
 cond (!r1_) (
  some (false, (0:Int), ([] : List D1_))) (
  cond (decide (k_ < (1:Int))) (
   some (false, (0:Int), ([] : List D1_))) (
   cond (decide ((1000:Int) < k_)) (
    some (false, (0:Int), ([] : List D1_))) (
    rq (i64 (c_.2 * k_)) <|
    loop (spec_MultiplyConstraint_l1 c_ k_) ((0:Int), ([] : List D1_)))))

/-- spec.l2Up -/
noncomputable def spec_l2Up (n : Int) (k_ : Int) : Option Int :=
 rq (i64 (n + k_)) <|
 rq (i64 ((n + k_) - (1:Int))) <|
 rq (1 ≤ k_ ∧ 0 ≤ ((n + k_) - (1:Int))) <|
 some (((n + k_) - (1:Int)) / k_)

/-- spec.DivideConstraint -/
noncomputable def spec_DivideConstraint_l1 (c_ : (List D1_) × Int) (k_ : Int) (r2_ : Int) : Int × (List D1_) → Option ((Int × (List D1_)) ⊕ (Bool × Int × (List D1_))) := fun (i, out_0) =>
 cond (decide (i < (c_.1.length:Int))) (
  rq (0 ≤ i ∧ i < c_.1.length) <|
  rq (0 ≤ i ∧ i < c_.1.length) <|
  (spec_l2Up (c_.1.getD i.toNat (0, 0)).1 k_).bind fun r5_ =>
  rq (out_0.length + [(r5_, (c_.1.getD i.toNat (0, 0)).2)].length ≤ bound) <|
  rq (i64 (i + (1:Int))) <|
  some (.inl ((i + (1:Int)), (out_0 ++ [(r5_, (c_.1.getD i.toNat (0, 0)).2)])))) (
  some (.inr (true, r2_, out_0)))

noncomputable def spec_DivideConstraint_j1 (c_ : (List D1_) × Int) (k_ : Int) : Unit → Option (Bool × Int × (List D1_)) := fun _ =>
 (spec_ConstraintValid c_).bind fun r1_ =>
 cond (!r1_) (
  some (false, (0:Int), ([] : List D1_))) (
  cond (decide (k_ < (1:Int))) (
   some (false, (0:Int), ([] : List D1_))) (
   cond (decide ((1000:Int) < k_)) (
    some (false, (0:Int), ([] : List D1_))) (
    (spec_l2Up c_.2 k_).bind fun r2_ =>
    loop (spec_DivideConstraint_l1 c_ k_ r2_) ((0:Int), ([] : List D1_)))))

noncomputable def spec_DivideConstraint (c_ : (List D1_) × Int) (k_ : Int) : Option (Bool × Int × (List D1_)) :=
 spec_DivideConstraint_j1 c_ k_ ()

/-- spec.l2Saturate -/
noncomputable def spec_l2Saturate_j1 (i : Int) (out_0 : List D1_) : D1_ → Option ((Int × (List D1_)) ⊕ (Int × (List D1_))) := fun t_1 =>
 rq (out_0.length + [t_1].length ≤ bound) <|
 rq (i64 (i + (1:Int))) <|
 some (.inl ((i + (1:Int)), (out_0 ++ [t_1])))

noncomputable def spec_l2Saturate_l1 (c_ : (List D1_) × Int) : Int × (List D1_) → Option ((Int × (List D1_)) ⊕ (Int × (List D1_))) := fun (i, out_0) =>
 cond (decide (i < (c_.1.length:Int))) (
  cond (decide ((0:Int) < c_.2)) (
   rq (0 ≤ i ∧ i < c_.1.length) <|
   cond (decide (c_.2 < (c_.1.getD i.toNat (0, 0)).1)) (
    spec_l2Saturate_j1 i out_0 (c_.2, (c_.1.getD i.toNat (0, 0)).2)) (
    spec_l2Saturate_j1 i out_0 (c_.1.getD i.toNat (0, 0)))) (
   some (.inr (c_.2, out_0)))) (
  some (.inr (c_.2, out_0)))

noncomputable def spec_l2Saturate (c_ : (List D1_) × Int) : Option (Int × (List D1_)) :=
 loop (spec_l2Saturate_l1 c_) ((0:Int), ([] : List D1_))

/-- spec.SaturateConstraint -/
noncomputable def spec_SaturateConstraint (c_ : (List D1_) × Int) : Option (Bool × Int × (List D1_)) :=
 (spec_ConstraintValid c_).bind fun r1_ =>
 cond (!r1_) (
  some (false, (0:Int), ([] : List D1_))) (
  (spec_l2Saturate c_).bind fun r2_ =>
  some (true, r2_.1, r2_.2))

/-- spec.WeakenConstraint -/
noncomputable def spec_WeakenConstraint_j1 : Int × (List D1_) → Option (Bool × Int × (List D1_)) := fun (out_11, out_01) =>
 cond (decide (out_11 < (0:Int))) (
  some (true, (0:Int), out_01)) (
  some (true, out_11, out_01))

noncomputable def spec_WeakenConstraint_l1 (c_ : (List D1_) × Int) (variable_ : Int) : Int × Int × (List D1_) → Option ((Int × Int × (List D1_)) ⊕ (Bool × Int × (List D1_))) := fun (i, out_1, out_0) =>
 cond (decide (i < (c_.1.length:Int))) (
  rq (0 ≤ i ∧ i < c_.1.length) <|
  (spec_l1Abs (c_.1.getD i.toNat (0, 0)).2).bind fun r3_ =>
  cond (r3_ == variable_) (
   rq (0 ≤ i ∧ i < c_.1.length) <|
   rq (i64 (out_1 - (c_.1.getD i.toNat (0, 0)).1)) <|
   rq (i64 (i + (1:Int))) <|
   some (.inl ((i + (1:Int)), (out_1 - (c_.1.getD i.toNat (0, 0)).1), out_0))) (
   rq (0 ≤ i ∧ i < c_.1.length) <|
   rq (out_0.length + [(c_.1.getD i.toNat (0, 0))].length ≤ bound) <|
   rq (i64 (i + (1:Int))) <|
   some (.inl ((i + (1:Int)), out_1, (out_0 ++ [(c_.1.getD i.toNat (0, 0))]))))) (
  up (spec_WeakenConstraint_j1 (out_1, out_0)))

noncomputable def spec_WeakenConstraint (c_ : (List D1_) × Int) (variable_ : Int) : Option (Bool × Int × (List D1_)) :=
 (spec_ConstraintValid c_).bind fun r1_ =>
 cond (!r1_) (
  some (false, (0:Int), ([] : List D1_))) (
  cond (decide (variable_ < (1:Int))) (
   some (false, (0:Int), ([] : List D1_))) (
   cond (decide ((12:Int) < variable_)) (
    some (false, (0:Int), ([] : List D1_))) (
    loop (spec_WeakenConstraint_l1 c_ variable_) ((0:Int), c_.2, ([] : List D1_)))))

/-- spec.l4Derive -/
noncomputable def spec_l4Derive (a0 : (List D2_) × (List Bool)) (a1 : Int × Int × Int × (List D1_) × Int) : Option (Bool × Int × (List D1_)) :=
 cond (a1.1 == (6:Int)) (
  (spec_LiteralAxiom a1.2.1).bind fun r1_ =>
  some (r1_.1, r1_.2.1, r1_.2.2)) (
  cond (a1.1 == (7:Int)) (
   (spec_l1Copy a1.2.2.2).bind fun r6_ =>
   (spec_ConstraintValid a1.2.2.2).bind fun r7_ =>
   cond r7_ (
    (spec_l4Kept a0).bind fun r8_ =>
    (spec_l3Rup r8_ a1.2.2.2).bind fun r9_ =>
    some (r9_, r6_.1, r6_.2)) (
    some (false, r6_.1, r6_.2))) (
   (spec_l4Live a0 a1.2.1).bind fun r10_ =>
   cond (!r10_) (
    some (false, (0:Int), ([] : List D1_))) (
    rq (0 ≤ a1.2.1 ∧ a1.2.1 < a0.1.length) <|
    cond (a1.1 == (1:Int)) (
     (spec_l4Live a0 a1.2.2.1).bind fun r11_ =>
     cond (!r11_) (
      some (false, (0:Int), ([] : List D1_))) (
      rq (0 ≤ a1.2.2.1 ∧ a1.2.2.1 < a0.1.length) <|
      (spec_AddConstraints (a0.1.getD a1.2.1.toNat ([], 0)) (a0.1.getD a1.2.2.1.toNat ([], 0))).bind fun r13_ =>
      some (r13_.1, r13_.2.1, r13_.2.2))) (
     cond (a1.1 == (2:Int)) (
      (spec_MultiplyConstraint (a0.1.getD a1.2.1.toNat ([], 0)) a1.2.2.1).bind fun r14_ =>
      some (r14_.1, r14_.2.1, r14_.2.2)) (
      cond (a1.1 == (3:Int)) (
       (spec_DivideConstraint (a0.1.getD a1.2.1.toNat ([], 0)) a1.2.2.1).bind fun r15_ =>
       some (r15_.1, r15_.2.1, r15_.2.2)) (
       cond (a1.1 == (4:Int)) (
        (spec_SaturateConstraint (a0.1.getD a1.2.1.toNat ([], 0))).bind fun r16_ =>
        some (r16_.1, r16_.2.1, r16_.2.2)) (
        (spec_WeakenConstraint (a0.1.getD a1.2.1.toNat ([], 0)) a1.2.2.1).bind fun r17_ =>
        some (r17_.1, r17_.2.1, r17_.2.2))))))))

/-- spec.l4Run -/
noncomputable def spec_l4Run_j2 (a1 : List D5_) (i : Int) (i_0 : List D2_) (i_1 : List Bool) : Unit → Option ((Int × (List D2_) × (List Bool)) ⊕ (Int × (List D2_) × (List Bool))) := fun _ =>
 (spec_l4Parts (a1.getD i.toNat (0, (0, (0, ([], 0)))))).bind fun r4_ =>
 cond (!r4_) (
  some (.inr (i, i_0, i_1))) (
  cond ((a1.getD i.toNat (0, (0, (0, ([], 0))))).1 == (8:Int)) (
   (spec_l4Live (i_0, i_1) (a1.getD i.toNat (0, (0, (0, ([], 0))))).2.1).bind fun r5_ =>
   cond (!r5_) (
    some (.inr (i, i_0, i_1))) (
    rq (0 ≤ (a1.getD i.toNat (0, (0, (0, ([], 0))))).2.1 ∧ (a1.getD i.toNat (0, (0, (0, ([], 0))))).2.1 < i_1.length) <|
    rq (i64 (i + (1:Int))) <|
    some (.inl ((i + (1:Int)), i_0, (i_1.set (a1.getD i.toNat (0, (0, (0, ([], 0))))).2.1.toNat true))))) (
   (spec_l4Derive (i_0, i_1) (a1.getD i.toNat (0, (0, (0, ([], 0)))))).bind fun r6_ =>
   cond (!r6_.1) (
    some (.inr (i, i_0, i_1))) (
    rq (i_0.length + [(r6_.2.2, r6_.2.1)].length ≤ bound) <|
    rq (i_1.length + [false].length ≤ bound) <|
    rq (i64 (i + (1:Int))) <|
    some (.inl ((i + (1:Int)), (i_0 ++ [(r6_.2.2, r6_.2.1)]), (i_1 ++ [false]))))))

noncomputable def spec_l4Run_l1 (a1 : List D5_) : Int × (List D2_) × (List Bool) → Option ((Int × (List D2_) × (List Bool)) ⊕ (Int × (List D2_) × (List Bool))) := fun (i, i_0, i_1) =>
 cond (decide (i < (a1.length:Int))) (
  rq (0 ≤ i ∧ i < a1.length) <|
  spec_l4Run_j2 a1 i i_0 i_1 ()) (
  some (.inr ((-1:Int), i_0, i_1)))

noncomputable def spec_l4Run_j1 (a0 : List D2_) (a1 : List D5_) : Unit → Option (Int × (List D2_) × (List Bool)) := fun _ =>
 loop (spec_l4Run_l1 a1) ((0:Int), (([] : List D2_) ++ a0), (List.replicate (a0.length:Int).toNat false))

noncomputable def spec_l4Run (a0 : List D2_) (a1 : List D5_) : Option (Int × (List D2_) × (List Bool)) :=
 rq (([] : List D2_).length + a0.length ≤ bound) <|
 rq (0 ≤ (a0.length:Int) ∧ (a0.length:Int) ≤ bound ∧ (a0.length:Int) = (a0.length:Int)) <|
 spec_l4Run_j1 a0 a1 ()

/-- spec.ConstraintFalse -/
noncomputable def spec_ConstraintFalse (c_ : (List D1_) × Int) : Option Bool :=
 (spec_ConstraintValid c_).bind fun r3_ =>
 cond r3_ (
  (spec_l1Total c_).bind fun r4_ =>
  some (decide (r4_ < c_.2))) (
  some false)

/-- spec.l4False -/
noncomputable def spec_l4False_l1 (d : (List D2_) × (List Bool)) : Int → Option (Int ⊕ Int) := fun i =>
 cond (decide (i < (d.1.length:Int))) (
  rq (0 ≤ i ∧ i < d.2.length) <|
  cond (!(d.2.getD i.toNat false)) (
   rq (0 ≤ i ∧ i < d.1.length) <|
   (spec_ConstraintFalse (d.1.getD i.toNat ([], 0))).bind fun r1_ =>
   cond r1_ (
    some (.inr i)) (
    rq (i64 (i + (1:Int))) <|
    some (.inl (i + (1:Int))))) (
   rq (i64 (i + (1:Int))) <|
   some (.inl (i + (1:Int))))) (
  some (.inr (-1:Int)))

noncomputable def spec_l4False (d : (List D2_) × (List Bool)) : Option Int :=
 loop (spec_l4False_l1 d) (0:Int)

/-- spec.CheckRefutation -/
noncomputable def spec_CheckRefutation (list_ : List D2_) (steps : List D5_) : Option Bool :=
 (spec_l4Fits list_ steps).bind fun r1_ =>
 cond (!r1_) (
  some false) (
  (spec_l4Run list_ steps).bind fun r2_ =>
  cond (decide (r2_.1 < (0:Int))) (
   (spec_l4False r2_.2).bind fun r3_ =>
   some (decide ((0:Int) ≤ r3_))) (
   some false))

/-- spec.l4Needs -/
noncomputable def spec_l4Needs_l1 (at_ : Int) : Int × (List Bool) → Option ((Int × (List Bool)) ⊕ (List Bool)) := fun (k_, need1) =>
 cond (decide (k_ < at_)) (
  rq (0 ≤ k_ ∧ k_ < need1.length) <|
  rq (i64 (k_ + (1:Int))) <|
  some (.inl ((k_ + (1:Int)), (need1.set k_.toNat true)))) (
  some (.inr need1))

noncomputable def spec_l4Needs (s_ : Int × Int × Int × (List D1_) × Int) (at_ : Int) (need : List Bool) : Option (List Bool) :=
 cond (s_.1 == (1:Int)) (
  rq (0 ≤ s_.2.1 ∧ s_.2.1 < need.length) <|
  rq (0 ≤ s_.2.2.1 ∧ s_.2.2.1 < (need.set s_.2.1.toNat true).length) <|
  some ((need.set s_.2.1.toNat true).set s_.2.2.1.toNat true)) (
  cond (s_.1 == (7:Int)) (
   loop (spec_l4Needs_l1 at_) ((0:Int), need)) (
   cond (s_.1 == (2:Int)) (
    rq (0 ≤ s_.2.1 ∧ s_.2.1 < need.length) <|
    some (need.set s_.2.1.toNat true)) (
    cond (s_.1 == (3:Int)) (
     rq (0 ≤ s_.2.1 ∧ s_.2.1 < need.length) <|
     some (need.set s_.2.1.toNat true)) (
     cond (s_.1 == (4:Int)) (
      rq (0 ≤ s_.2.1 ∧ s_.2.1 < need.length) <|
      some (need.set s_.2.1.toNat true)) (
      cond (s_.1 == (5:Int)) (
       rq (0 ≤ s_.2.1 ∧ s_.2.1 < need.length) <|
       some (need.set s_.2.1.toNat true)) (
       some need))))))

/-- spec.UsedInputs -/
noncomputable def spec_UsedInputs_l1 (a0 : List D2_) (i5 : List Bool) : Int × (List Int) → Option ((Int × (List Int)) ⊕ (Bool × (List Int))) := fun (i6, i7) =>
 cond (decide (i6 < (a0.length:Int))) (
  rq (0 ≤ i6 ∧ i6 < i5.length) <|
  cond (i5.getD i6.toNat false) (
   rq (i7.length + [i6].length ≤ bound) <|
   rq (i64 (i6 + (1:Int))) <|
   some (.inl ((i6 + (1:Int)), (i7 ++ [i6])))) (
   rq (i64 (i6 + (1:Int))) <|
   some (.inl ((i6 + (1:Int)), i7)))) (
  some (.inr (true, i7)))

noncomputable def spec_UsedInputs_j2 (a0 : List D2_) : (List Bool) → Option (Bool × (List Int)) := fun i5 =>
 loop (spec_UsedInputs_l1 a0 i5) ((0:Int), ([] : List Int))

noncomputable def spec_UsedInputs_l2 (a0 : List D2_) (a1 : List D5_) (i2 : List Int) : Int × (List Bool) → Option ((Int × (List Bool)) ⊕ (Bool × (List Int))) := fun (i3, i4) =>
 cond (decide ((a0.length:Int) ≤ i3)) (
  rq (0 ≤ i3 ∧ i3 < i4.length) <|
  cond (i4.getD i3.toNat false) (
   rq (i64 (i3 - (a0.length:Int))) <|
   rq (0 ≤ (i3 - (a0.length:Int)) ∧ (i3 - (a0.length:Int)) < i2.length) <|
   rq (0 ≤ (i2.getD (i3 - (a0.length:Int)).toNat 0) ∧ (i2.getD (i3 - (a0.length:Int)).toNat 0) < a1.length) <|
   (spec_l4Needs (a1.getD (i2.getD (i3 - (a0.length:Int)).toNat 0).toNat (0, (0, (0, ([], 0))))) i3 i4).bind fun r5_ =>
   rq (i64 (i3 - (1:Int))) <|
   some (.inl ((i3 - (1:Int)), r5_))) (
   rq (i64 (i3 - (1:Int))) <|
   some (.inl ((i3 - (1:Int)), i4)))) (
  up (spec_UsedInputs_j2 a0 i4))

noncomputable def spec_UsedInputs_j1 (a0 : List D2_) (a1 : List D5_) (r2_ : Int × (List D2_) × (List Bool)) (r3_ : Int) : (List Int) → Option (Bool × (List Int)) := fun i2 =>
 rq (i64 ((r2_.2.1.length:Int) - (1:Int))) <|
 loop (spec_UsedInputs_l2 a0 a1 i2) (((r2_.2.1.length:Int) - (1:Int)), ((List.replicate (r2_.2.1.length:Int).toNat false).set r3_.toNat true))

noncomputable def spec_UsedInputs_l3 (a0 : List D2_) (a1 : List D5_) (r2_ : Int × (List D2_) × (List Bool)) (r3_ : Int) : Int × (List Int) → Option ((Int × (List Int)) ⊕ (Bool × (List Int))) := fun (i, i1) =>
 cond (decide (i < (a1.length:Int))) (
  rq (0 ≤ i ∧ i < a1.length) <|
  cond ((a1.getD i.toNat (0, (0, (0, ([], 0))))).1 != (8:Int)) (
   rq (i1.length + [i].length ≤ bound) <|
   rq (i64 (i + (1:Int))) <|
   some (.inl ((i + (1:Int)), (i1 ++ [i])))) (
   rq (i64 (i + (1:Int))) <|
   some (.inl ((i + (1:Int)), i1)))) (
  up (spec_UsedInputs_j1 a0 a1 r2_ r3_ i1))

noncomputable def spec_UsedInputs (a0 : List D2_) (a1 : List D5_) : Option (Bool × (List Int)) :=
 (spec_CheckRefutation a0 a1).bind fun r1_ =>
 cond (!r1_) (
  some (false, ([] : List Int))) (
  (spec_l4Run a0 a1).bind fun r2_ =>
  rq (0 ≤ (r2_.2.1.length:Int) ∧ (r2_.2.1.length:Int) ≤ bound ∧ (r2_.2.1.length:Int) = (r2_.2.1.length:Int)) <|
  (spec_l4False r2_.2).bind fun r3_ =>
  rq (0 ≤ r3_ ∧ r3_ < (List.replicate (r2_.2.1.length:Int).toNat false).length) <|
  loop (spec_UsedInputs_l3 a0 a1 r2_ r3_) ((0:Int), ([] : List Int)))

/-- impl.within -/
noncomputable def impl_within (n : Int) (low : Int) (high : Int) : Option Bool :=
 cond (decide (low ≤ n)) (
  some (decide (n ≤ high))) (
  some false)

/-- impl.isLiteral -/
noncomputable def impl_isLiteral (l : Int) : Option Bool :=
 cond (l != (0:Int)) (
  (impl_within l (-12:Int) (12:Int)).bind fun r1_ =>
  some r1_) (
  some false)

/-- impl.variableOf -/
noncomputable def impl_variableOf (l : Int) : Option Int :=
 rq (i64 (0 - l)) <|
 some (max l (0 - l))

/-- impl.ConstraintValid -/
noncomputable def impl_ConstraintValid_l1 (c_ : (List D1_) × Int) : Int × Int → Option ((Int × Int) ⊕ Bool) := fun (before, i) =>
 cond (decide (i < (c_.1.length:Int))) (
  rq (0 ≤ i ∧ i < c_.1.length) <|
  (impl_isLiteral (c_.1.getD i.toNat (0, 0)).2).bind fun r1_ =>
  cond (!r1_) (
   some (.inr false)) (
   (impl_variableOf (c_.1.getD i.toNat (0, 0)).2).bind fun r2_ =>
   cond (decide (r2_ ≤ before)) (
    some (.inr false)) (
    (impl_within (c_.1.getD i.toNat (0, 0)).1 (1:Int) (1000:Int)).bind fun r3_ =>
    cond (!r3_) (
     some (.inr false)) (
     (impl_variableOf (c_.1.getD i.toNat (0, 0)).2).bind fun r4_ =>
     rq (i64 (i + (1:Int))) <|
     some (.inl (r4_, (i + (1:Int)))))))) (
  (impl_within c_.2 (0:Int) (20000:Int)).bind fun r5_ =>
  some (.inr r5_))

noncomputable def impl_ConstraintValid (c_ : (List D1_) × Int) : Option Bool :=
 loop (impl_ConstraintValid_l1 c_) ((0:Int), (0:Int))

/-- impl.allValid$1 -/
noncomputable def impl_allValid_1 (c_ : (List D1_) × Int) : Option Bool :=
 (impl_ConstraintValid c_).bind fun r1_ =>
 some (!r1_)

/-- slices.IndexFunc[[]impl.Constraint,impl.Constraint] -/
noncomputable def slices_IndexFunc_impl_Constraint__impl_allValid_1_l1 (s_ : List D2_) : Int → Option (Int ⊕ Int) := fun i =>
 cond (decide (i < (s_.length:Int))) (
  rq (0 ≤ i ∧ i < s_.length) <|
  (impl_allValid_1 (s_.getD i.toNat ([], 0))).bind fun r1_ =>
  cond r1_ (
   some (.inr i)) (
   rq (i64 (i + (1:Int))) <|
   some (.inl (i + (1:Int))))) (
  some (.inr (-1:Int)))

noncomputable def slices_IndexFunc_impl_Constraint__impl_allValid_1 (s_ : List D2_) : Option Int :=
 loop (slices_IndexFunc_impl_Constraint__impl_allValid_1_l1 s_) (0:Int)

/-- slices.ContainsFunc[[]impl.Constraint,impl.Constraint] -/
noncomputable def slices_ContainsFunc_impl_Constraint__impl_allValid_1 (s_ : List D2_) : Option Bool :=
 (slices_IndexFunc_impl_Constraint__impl_allValid_1 s_).bind fun r1_ =>
 some (decide ((0:Int) ≤ r1_))

/-- impl.allValid -/
noncomputable def impl_allValid (list_ : List D2_) : Option Bool :=
 (slices_ContainsFunc_impl_Constraint__impl_allValid_1 list_).bind fun r1_ =>
 some (!r1_)

/-- impl.ProblemValid -/
noncomputable def impl_ProblemValid (list_ : List D2_) : Option Bool :=
 cond (decide ((list_.length:Int) ≤ (400:Int))) (
  (impl_allValid list_).bind fun r1_ =>
  some r1_) (
  some false)

/-- slices.Clone[[]impl.Constraint,impl.Constraint] -/
noncomputable def slices_Clone_impl_Constraint (s_ : List D2_) : Option (List D2_) :=
 nt (s_ = []) (
  some ([] : List D2_)) (
  rq (([] : List D2_).length + s_.length ≤ bound) <|
  some (([] : List D2_) ++ s_))

/-- impl.refers -/
noncomputable def impl_refers (kind : Int) : Option (Int × Bool) :=
 cond (kind == (1:Int)) (
  some ((2:Int), false)) (
  cond (kind == (2:Int)) (
   some ((1:Int), true)) (
   cond (kind == (3:Int)) (
    some ((1:Int), true)) (
    cond (kind == (5:Int)) (
     some ((1:Int), true)) (
     cond (kind == (4:Int)) (
      some ((1:Int), false)) (
      cond (kind == (8:Int)) (
       some ((1:Int), false)) (
       cond (kind == (6:Int)) (
        some ((0:Int), false)) (
        cond (kind == (7:Int)) (
         some ((0:Int), false)) (
         some ((-1:Int), false)))))))))

/-- slices.Equal[[]impl.Term,impl.Term] -/
noncomputable def slices_Equal_impl_Term_l1 (s1_ : List D1_) (s2_ : List D1_) : Int → Option (Int ⊕ Bool) := fun i =>
 cond (decide (i < (s1_.length:Int))) (
  rq (0 ≤ i ∧ i < s1_.length) <|
  rq (0 ≤ i ∧ i < s2_.length) <|
  cond (!((s1_.getD i.toNat (0, 0)).1 == (s2_.getD i.toNat (0, 0)).1 && (s1_.getD i.toNat (0, 0)).2 == (s2_.getD i.toNat (0, 0)).2)) (
   some (.inr false)) (
   rq (i64 (i + (1:Int))) <|
   some (.inl (i + (1:Int))))) (
  some (.inr true))

noncomputable def slices_Equal_impl_Term (s1_ : List D1_) (s2_ : List D1_) : Option Bool :=
 cond ((s1_.length:Int) != (s2_.length:Int)) (
  some false) (
  loop (slices_Equal_impl_Term_l1 s1_ s2_) (0:Int))

/-- impl.ConstraintSame -/
noncomputable def impl_ConstraintSame (a : (List D1_) × Int) (b : (List D1_) × Int) : Option Bool :=
 cond (a.2 == b.2) (
  (slices_Equal_impl_Term a.1 b.1).bind fun r1_ =>
  some r1_) (
  some false)

/-- (impl.Step).shaped -/
noncomputable def impl_Step_shaped (s_ : Int × Int × Int × (List D1_) × Int) : Option Bool :=
 (impl_refers s_.1).bind fun r1_ =>
 cond (decide ((0:Int) ≤ r1_.1)) (
  cond (decide ((0:Int) < r1_.1)) (
   cond (r1_.1 == (2:Int)) (
    cond (s_.1 == (7:Int)) (
     some true) (
     (impl_ConstraintSame s_.2.2.2 (([] : List D1_), (0:Int))).bind fun r10_ =>
     some r10_)) (
    cond r1_.2 (
     cond (s_.1 == (7:Int)) (
      some true) (
      (impl_ConstraintSame s_.2.2.2 (([] : List D1_), (0:Int))).bind fun r9_ =>
      some r9_)) (
     cond (s_.2.2.1 == (0:Int)) (
      cond (s_.1 == (7:Int)) (
       some true) (
       (impl_ConstraintSame s_.2.2.2 (([] : List D1_), (0:Int))).bind fun r8_ =>
       some r8_)) (
      some false)))) (
   cond (s_.1 == (6:Int)) (
    cond (r1_.1 == (2:Int)) (
     cond (s_.1 == (7:Int)) (
      some true) (
      (impl_ConstraintSame s_.2.2.2 (([] : List D1_), (0:Int))).bind fun r7_ =>
      some r7_)) (
     cond r1_.2 (
      cond (s_.1 == (7:Int)) (
       some true) (
       (impl_ConstraintSame s_.2.2.2 (([] : List D1_), (0:Int))).bind fun r6_ =>
       some r6_)) (
      cond (s_.2.2.1 == (0:Int)) (
       cond (s_.1 == (7:Int)) (
        some true) (
        (impl_ConstraintSame s_.2.2.2 (([] : List D1_), (0:Int))).bind fun r5_ =>
        some r5_)) (
       some false)))) (
    cond (s_.2.1 == (0:Int)) (
     cond (r1_.1 == (2:Int)) (
      cond (s_.1 == (7:Int)) (
       some true) (
       (impl_ConstraintSame s_.2.2.2 (([] : List D1_), (0:Int))).bind fun r4_ =>
       some r4_)) (
      cond r1_.2 (
       cond (s_.1 == (7:Int)) (
        some true) (
        (impl_ConstraintSame s_.2.2.2 (([] : List D1_), (0:Int))).bind fun r3_ =>
        some r3_)) (
       cond (s_.2.2.1 == (0:Int)) (
        cond (s_.1 == (7:Int)) (
         some true) (
         (impl_ConstraintSame s_.2.2.2 (([] : List D1_), (0:Int))).bind fun r2_ =>
         some r2_)) (
        some false)))) (
     some false)))) (
  some false)

/-- (*impl.running).has -/
noncomputable def impl_running_has__Rss (i : Int) (o1 : List D2_) (o2 : List Bool) : Option Bool :=
 rq (i64 ((o1.length:Int) - (1:Int))) <|
 (impl_within i (0:Int) ((o1.length:Int) - (1:Int))).bind fun r1_ =>
 cond r1_ (
  rq (0 ≤ i ∧ i < o2.length) <|
  some (!(o2.getD i.toNat false))) (
  some false)

/-- slices.Grow[[]impl.Term,impl.Term] -/
noncomputable def slices_Grow_impl_Term (n : Int) : Option (List D1_) :=
 cond (decide (n < (0:Int))) (
  none) (
  rq (i64 ((0:Int) - (0:Int))) <|
  rq (i64 (n - ((0:Int) - (0:Int)))) <|
  cond (decide ((0:Int) < (n - ((0:Int) - (0:Int))))) (
   rq ((0:Int) = 0) <|
   rq (1 ≤ (n - ((0:Int) - (0:Int))) ∧ (n - ((0:Int) - (0:Int))) ≤ bound) <|
   rq (0 ≤ (0:Int) ∧ (0:Int) ≤ (List.replicate (n - ((0:Int) - (0:Int))).toNat (0, 0)).length) <|
   some ((List.replicate (n - ((0:Int) - (0:Int))).toNat (0, 0)).take (0:Int).toNat)) (
   some ([] : List D1_)))

/-- slices.Concat[[]impl.Term,impl.Term] -/
noncomputable def slices_Concat_impl_Term_l2 (slices : List (List D1_)) : Int × (List D1_) → Option ((Int × (List D1_)) ⊕ ((Int × Int) ⊕ (List D1_))) := fun (i1, newslice) =>
 cond (decide (i1 < (slices.length:Int))) (
  rq (0 ≤ i1 ∧ i1 < slices.length) <|
  rq (newslice.length + (slices.getD i1.toNat []).length ≤ bound) <|
  rq (i64 (i1 + (1:Int))) <|
  some (.inl ((i1 + (1:Int)), (newslice ++ (slices.getD i1.toNat []))))) (
  some (.inr (.inr newslice)))

noncomputable def slices_Concat_impl_Term_l1 (slices : List (List D1_)) : Int × Int → Option ((Int × Int) ⊕ (List D1_)) := fun (size, i) =>
 cond (decide (i < (slices.length:Int))) (
  rq (0 ≤ i ∧ i < slices.length) <|
  rq (i64 (size + ((slices.getD i.toNat []).length:Int))) <|
  cond (decide ((size + ((slices.getD i.toNat []).length:Int)) < (0:Int))) (
   none) (
   rq (i64 (i + (1:Int))) <|
   some (.inl ((size + ((slices.getD i.toNat []).length:Int)), (i + (1:Int)))))) (
  (slices_Grow_impl_Term size).bind fun r1_ =>
  loop (slices_Concat_impl_Term_l2 slices) ((0:Int), r1_))

noncomputable def slices_Concat_impl_Term (slices : List (List D1_)) : Option (List D1_) :=
 loop (slices_Concat_impl_Term_l1 slices) ((0:Int), (0:Int))

/-- (impl.Constraint).valid -/
noncomputable def impl_Constraint_valid__s (c_1 : Int) (o0 : List D1_) : Option (Bool × Int × (List D1_)) :=
 (impl_ConstraintValid (o0, c_1)).bind fun r1_ =>
 cond (!r1_) (
  some (false, (0:Int), ([] : List D1_))) (
  some (true, c_1, o0))

/-- impl.normal -/
noncomputable def impl_normal_j2 : Int × (List D1_) → Option (Bool × Int × (List D1_)) := fun (i9, i_03) =>
 (impl_Constraint_valid__s (max (0:Int) i9) i_03).bind fun r1_ =>
 some (r1_.1, r1_.2.1, r1_.2.2)

noncomputable def impl_normal_j3 (i5 : Int) (i6 : Int) : Int × (List D1_) → Option ((Int × Int × (List D1_)) ⊕ (Bool × Int × (List D1_))) := fun (i8, i_02) =>
 rq (i64 (i5 - i8)) <|
 rq (i64 (i6 + (1:Int))) <|
 some (.inl ((i5 - i8), (i6 + (1:Int)), i_02))

noncomputable def impl_normal_l1 (i4 : List Int) : Int × Int × (List D1_) → Option ((Int × Int × (List D1_)) ⊕ (Bool × Int × (List D1_))) := fun (i5, i6, i_01) =>
 cond (decide (i6 < (13:Int))) (
  rq ((0 ≤ i6 ∧ i6 < 13) ∧ 13 ≤ [(i4.getD 0 0), (i4.getD 1 0), (i4.getD 2 0), (i4.getD 3 0), (i4.getD 4 0), (i4.getD 5 0), (i4.getD 6 0), (i4.getD 7 0), (i4.getD 8 0), (i4.getD 9 0), (i4.getD 10 0), (i4.getD 11 0), (i4.getD 12 0)].length) <|
  cond (decide ((0:Int) < ([(i4.getD 0 0), (i4.getD 1 0), (i4.getD 2 0), (i4.getD 3 0), (i4.getD 4 0), (i4.getD 5 0), (i4.getD 6 0), (i4.getD 7 0), (i4.getD 8 0), (i4.getD 9 0), (i4.getD 10 0), (i4.getD 11 0), (i4.getD 12 0)].getD i6.toNat 0))) (
   rq (i_01.length + [(([(i4.getD 0 0), (i4.getD 1 0), (i4.getD 2 0), (i4.getD 3 0), (i4.getD 4 0), (i4.getD 5 0), (i4.getD 6 0), (i4.getD 7 0), (i4.getD 8 0), (i4.getD 9 0), (i4.getD 10 0), (i4.getD 11 0), (i4.getD 12 0)].getD i6.toNat 0), i6)].length ≤ bound) <|
   rq (i64 (i6 + (1:Int))) <|
   some (.inl (i5, (i6 + (1:Int)), (i_01 ++ [(([(i4.getD 0 0), (i4.getD 1 0), (i4.getD 2 0), (i4.getD 3 0), (i4.getD 4 0), (i4.getD 5 0), (i4.getD 6 0), (i4.getD 7 0), (i4.getD 8 0), (i4.getD 9 0), (i4.getD 10 0), (i4.getD 11 0), (i4.getD 12 0)].getD i6.toNat 0), i6)])))) (
   cond (decide (([(i4.getD 0 0), (i4.getD 1 0), (i4.getD 2 0), (i4.getD 3 0), (i4.getD 4 0), (i4.getD 5 0), (i4.getD 6 0), (i4.getD 7 0), (i4.getD 8 0), (i4.getD 9 0), (i4.getD 10 0), (i4.getD 11 0), (i4.getD 12 0)].getD i6.toNat 0) < (0:Int))) (
    rq (i64 (0 - ([(i4.getD 0 0), (i4.getD 1 0), (i4.getD 2 0), (i4.getD 3 0), (i4.getD 4 0), (i4.getD 5 0), (i4.getD 6 0), (i4.getD 7 0), (i4.getD 8 0), (i4.getD 9 0), (i4.getD 10 0), (i4.getD 11 0), (i4.getD 12 0)].getD i6.toNat 0))) <|
    rq (i64 (0 - i6)) <|
    rq (i_01.length + [((0 - ([(i4.getD 0 0), (i4.getD 1 0), (i4.getD 2 0), (i4.getD 3 0), (i4.getD 4 0), (i4.getD 5 0), (i4.getD 6 0), (i4.getD 7 0), (i4.getD 8 0), (i4.getD 9 0), (i4.getD 10 0), (i4.getD 11 0), (i4.getD 12 0)].getD i6.toNat 0)), (0 - i6))].length ≤ bound) <|
    impl_normal_j3 i5 i6 (([(i4.getD 0 0), (i4.getD 1 0), (i4.getD 2 0), (i4.getD 3 0), (i4.getD 4 0), (i4.getD 5 0), (i4.getD 6 0), (i4.getD 7 0), (i4.getD 8 0), (i4.getD 9 0), (i4.getD 10 0), (i4.getD 11 0), (i4.getD 12 0)].getD i6.toNat 0), (i_01 ++ [((0 - ([(i4.getD 0 0), (i4.getD 1 0), (i4.getD 2 0), (i4.getD 3 0), (i4.getD 4 0), (i4.getD 5 0), (i4.getD 6 0), (i4.getD 7 0), (i4.getD 8 0), (i4.getD 9 0), (i4.getD 10 0), (i4.getD 11 0), (i4.getD 12 0)].getD i6.toNat 0)), (0 - i6))]))) (
    rq (i64 (i6 + (1:Int))) <|
    some (.inl (i5, (i6 + (1:Int)), i_01))))) (
  up (impl_normal_j2 (i5, i_01)))

noncomputable def impl_normal_j1 : Int × (List Int) → Option (Bool × Int × (List D1_)) := fun (i3, i4) =>
 rq ((0:Int) = 0 ∧ 0 = 0 ∧ 13 ≤ i4.length) <|
 loop (impl_normal_l1 i4) (i3, (0:Int), ([] : List D1_))

noncomputable def impl_normal_l2 (a0 : List D1_) : Int × Int × (List Int) → Option ((Int × Int × (List Int)) ⊕ (Bool × Int × (List D1_))) := fun (i, i1, i2) =>
 cond (decide (i1 < (a0.length:Int))) (
  rq (0 ≤ i1 ∧ i1 < a0.length) <|
  cond (decide ((a0.getD i1.toNat (0, 0)).2 < (0:Int))) (
   rq (i64 (i - (a0.getD i1.toNat (0, 0)).1)) <|
   rq (i64 (0 - (a0.getD i1.toNat (0, 0)).2)) <|
   rq ((0:Int) = 0 ∧ (0 ≤ (0 - (a0.getD i1.toNat (0, 0)).2) ∧ (0 - (a0.getD i1.toNat (0, 0)).2) < 13) ∧ 13 ≤ i2.length) <|
   rq (i64 ((i2.getD (0 - (a0.getD i1.toNat (0, 0)).2).toNat 0) - (a0.getD i1.toNat (0, 0)).1)) <|
   rq ((0:Int) = 0 ∧ (0 ≤ (0 - (a0.getD i1.toNat (0, 0)).2) ∧ (0 - (a0.getD i1.toNat (0, 0)).2) < 13) ∧ 13 ≤ i2.length) <|
   rq (i64 (i1 + (1:Int))) <|
   some (.inl ((i - (a0.getD i1.toNat (0, 0)).1), (i1 + (1:Int)), (i2.set (0 - (a0.getD i1.toNat (0, 0)).2).toNat ((i2.getD (0 - (a0.getD i1.toNat (0, 0)).2).toNat 0) - (a0.getD i1.toNat (0, 0)).1))))) (
   rq ((0:Int) = 0 ∧ (0 ≤ (a0.getD i1.toNat (0, 0)).2 ∧ (a0.getD i1.toNat (0, 0)).2 < 13) ∧ 13 ≤ i2.length) <|
   rq (i64 ((i2.getD (a0.getD i1.toNat (0, 0)).2.toNat 0) + (a0.getD i1.toNat (0, 0)).1)) <|
   rq ((0:Int) = 0 ∧ (0 ≤ (a0.getD i1.toNat (0, 0)).2 ∧ (a0.getD i1.toNat (0, 0)).2 < 13) ∧ 13 ≤ i2.length) <|
   rq (i64 (i1 + (1:Int))) <|
   some (.inl (i, (i1 + (1:Int)), (i2.set (a0.getD i1.toNat (0, 0)).2.toNat ((i2.getD (a0.getD i1.toNat (0, 0)).2.toNat 0) + (a0.getD i1.toNat (0, 0)).1)))))) (
  up (impl_normal_j1 (i, i2)))

noncomputable def impl_normal (a0 : List D1_) (a1 : Int) : Option (Bool × Int × (List D1_)) :=
 loop (impl_normal_l2 a0) (a1, (0:Int), (List.replicate 13 0))

/-- impl.AddConstraints -/
noncomputable def impl_AddConstraints_j1 (a : (List D1_) × Int) (b : (List D1_) × Int) : Unit → Option (Bool × Int × (List D1_)) := fun _ =>
 (impl_ConstraintValid a).bind fun r1_ =>
 cond (!r1_) (
  some (false, (0:Int), ([] : List D1_))) (
  (impl_ConstraintValid b).bind fun r2_ =>
  cond (!r2_) (
   some (false, (0:Int), ([] : List D1_))) (
   rq (i64 (a.2 + b.2)) <|
   (slices_Concat_impl_Term [a.1, b.1]).bind fun r5_ =>
   (impl_normal r5_ (a.2 + b.2)).bind fun r6_ =>
   some (r6_.1, r6_.2.1, r6_.2.2)))

noncomputable def impl_AddConstraints (a : (List D1_) × Int) (b : (List D1_) × Int) : Option (Bool × Int × (List D1_)) :=
 impl_AddConstraints_j1 a b ()

/-- slices.Clone[[]impl.Term,impl.Term] -/
noncomputable def slices_Clone_impl_Term (s_ : List D1_) : Option (List D1_) :=
 nt (s_ = []) (
  some ([] : List D1_)) (
  rq (([] : List D1_).length + s_.length ≤ bound) <|
  some (([] : List D1_) ++ s_))

/-- (impl.Constraint).own -/
noncomputable def impl_Constraint_own (c_ : (List D1_) × Int) : Option (Int × (List D1_)) :=
 (slices_Clone_impl_Term c_.1).bind fun r1_ =>
 some (c_.2, r1_)

/-- impl.MultiplyConstraint$1 -/
noncomputable def impl_MultiplyConstraint_1 (n : Int) (o0 : Int) : Option Int :=
 rq (i64 (n * o0)) <|
 some (n * o0)

/-- (impl.Constraint).valid -/
noncomputable def impl_Constraint_valid (c_ : (List D1_) × Int) : Option (Bool × (List D1_) × Int) :=
 (impl_ConstraintValid c_).bind fun r1_ =>
 cond (!r1_) (
  some (false, ([] : List D1_), (0:Int))) (
  some (true, c_.1, c_.2))

/-- (impl.Constraint).changed -/
noncomputable def impl_Constraint_changed__impl_MultiplyConstraint_1_j1 (r2_ : Int) : (List D1_) → Option (Bool × D2_) := fun out_01 =>
 (impl_Constraint_valid (out_01, r2_)).bind fun r6_ =>
 some (r6_.1, r6_.2)

noncomputable def impl_Constraint_changed__impl_MultiplyConstraint_1_l1 (o0 : Int) (r1_ : Int × (List D1_)) (r2_ : Int) : Int × (List D1_) → Option ((Int × (List D1_)) ⊕ (Bool × D2_)) := fun (i, out_0) =>
 cond (decide (i < (r1_.2.length:Int))) (
  rq (0 ≤ i ∧ i < out_0.length) <|
  (impl_MultiplyConstraint_1 (out_0.getD i.toNat (0, 0)).1 o0).bind fun r5_ =>
  rq (0 ≤ i ∧ i < out_0.length) <|
  rq (i64 (i + (1:Int))) <|
  some (.inl ((i + (1:Int)), (out_0.set i.toNat (r5_, (out_0.getD i.toNat (0, 0)).2))))) (
  up (impl_Constraint_changed__impl_MultiplyConstraint_1_j1 r2_ out_0))

noncomputable def impl_Constraint_changed__impl_MultiplyConstraint_1 (c_ : (List D1_) × Int) (o0 : Int) : Option (Bool × D2_) :=
 (impl_Constraint_own c_).bind fun r1_ =>
 (impl_MultiplyConstraint_1 c_.2 o0).bind fun r2_ =>
 loop (impl_Constraint_changed__impl_MultiplyConstraint_1_l1 o0 r1_ r2_) ((0:Int), r1_.2)

/-- impl.MultiplyConstraint -/
noncomputable def impl_MultiplyConstraint (c_ : (List D1_) × Int) (k_ : Int) : Option (Bool × (List D1_) × Int) :=
 (impl_ConstraintValid c_).bind fun r1_ =>
 cond (!r1_) (
  some (false, ([] : List D1_), (0:Int))) (
  (impl_within k_ (1:Int) (1000:Int)).bind fun r2_ =>
  cond (!r2_) (
   some (false, ([] : List D1_), (0:Int))) (
   (impl_Constraint_changed__impl_MultiplyConstraint_1 c_ k_).bind fun r3_ =>
   some (r3_.1, r3_.2.1, r3_.2.2)))

/-- impl.DivideConstraint$1 -/
noncomputable def impl_DivideConstraint_1 (n : Int) (o0 : Int) : Option Int :=
 rq (i64 (n + o0)) <|
 rq (i64 ((n + o0) - (1:Int))) <|
 rq (1 ≤ o0 ∧ 0 ≤ ((n + o0) - (1:Int))) <|
 some (((n + o0) - (1:Int)) / o0)

/-- (impl.Constraint).changed -/
noncomputable def impl_Constraint_changed__impl_DivideConstraint_1_j1 (r2_ : Int) : (List D1_) → Option (Bool × D2_) := fun out_01 =>
 (impl_Constraint_valid (out_01, r2_)).bind fun r6_ =>
 some (r6_.1, r6_.2)

noncomputable def impl_Constraint_changed__impl_DivideConstraint_1_l1 (o0 : Int) (r1_ : Int × (List D1_)) (r2_ : Int) : Int × (List D1_) → Option ((Int × (List D1_)) ⊕ (Bool × D2_)) := fun (i, out_0) =>
 cond (decide (i < (r1_.2.length:Int))) (
  rq (0 ≤ i ∧ i < out_0.length) <|
  (impl_DivideConstraint_1 (out_0.getD i.toNat (0, 0)).1 o0).bind fun r5_ =>
  rq (0 ≤ i ∧ i < out_0.length) <|
  rq (i64 (i + (1:Int))) <|
  some (.inl ((i + (1:Int)), (out_0.set i.toNat (r5_, (out_0.getD i.toNat (0, 0)).2))))) (
  up (impl_Constraint_changed__impl_DivideConstraint_1_j1 r2_ out_0))

noncomputable def impl_Constraint_changed__impl_DivideConstraint_1 (c_ : (List D1_) × Int) (o0 : Int) : Option (Bool × D2_) :=
 (impl_Constraint_own c_).bind fun r1_ =>
 (impl_DivideConstraint_1 c_.2 o0).bind fun r2_ =>
 loop (impl_Constraint_changed__impl_DivideConstraint_1_l1 o0 r1_ r2_) ((0:Int), r1_.2)

/-- impl.DivideConstraint -/
noncomputable def impl_DivideConstraint (c_ : (List D1_) × Int) (k_ : Int) : Option (Bool × (List D1_) × Int) :=
 (impl_ConstraintValid c_).bind fun r1_ =>
 cond (!r1_) (
  some (false, ([] : List D1_), (0:Int))) (
  (impl_within k_ (1:Int) (1000:Int)).bind fun r2_ =>
  cond (!r2_) (
   some (false, ([] : List D1_), (0:Int))) (
   (impl_Constraint_changed__impl_DivideConstraint_1 c_ k_).bind fun r3_ =>
   some (r3_.1, r3_.2.1, r3_.2.2)))

/-- impl.SaturateConstraint -/
noncomputable def impl_SaturateConstraint_l1 (c_ : (List D1_) × Int) : Int × (List D1_) → Option ((Int × (List D1_)) ⊕ (Bool × Int × (List D1_))) := fun (i, out_0) =>
 cond (decide (i < (c_.1.length:Int))) (
  rq (0 ≤ i ∧ i < c_.1.length) <|
  rq (out_0.length + [((min (c_.1.getD i.toNat (0, 0)).1 c_.2), (c_.1.getD i.toNat (0, 0)).2)].length ≤ bound) <|
  rq (i64 (i + (1:Int))) <|
  some (.inl ((i + (1:Int)), (out_0 ++ [((min (c_.1.getD i.toNat (0, 0)).1 c_.2), (c_.1.getD i.toNat (0, 0)).2)])))) (
  some (.inr (true, c_.2, out_0)))

noncomputable def impl_SaturateConstraint (c_ : (List D1_) × Int) : Option (Bool × Int × (List D1_)) :=
 (impl_ConstraintValid c_).bind fun r1_ =>
 cond (!r1_) (
  some (false, (0:Int), ([] : List D1_))) (
  cond (decide ((0:Int) < c_.2)) (
   loop (impl_SaturateConstraint_l1 c_) ((0:Int), ([] : List D1_))) (
   some (true, c_.2, ([] : List D1_))))

/-- impl.WeakenConstraint -/
noncomputable def impl_WeakenConstraint_l1 (c_ : (List D1_) × Int) (variable_ : Int) : Int × Int × (List D1_) → Option ((Int × Int × (List D1_)) ⊕ (Bool × Int × (List D1_))) := fun (i, out_1, out_0) =>
 cond (decide (i < (c_.1.length:Int))) (
  rq (0 ≤ i ∧ i < c_.1.length) <|
  (impl_variableOf (c_.1.getD i.toNat (0, 0)).2).bind fun r4_ =>
  cond (r4_ == variable_) (
   rq (i64 (c_.2 - (c_.1.getD i.toNat (0, 0)).1)) <|
   rq (i64 (i + (1:Int))) <|
   some (.inl ((i + (1:Int)), (max (0:Int) (c_.2 - (c_.1.getD i.toNat (0, 0)).1)), out_0))) (
   rq (out_0.length + [(c_.1.getD i.toNat (0, 0))].length ≤ bound) <|
   rq (i64 (i + (1:Int))) <|
   some (.inl ((i + (1:Int)), out_1, (out_0 ++ [(c_.1.getD i.toNat (0, 0))]))))) (
  some (.inr (true, out_1, out_0)))

noncomputable def impl_WeakenConstraint (c_ : (List D1_) × Int) (variable_ : Int) : Option (Bool × Int × (List D1_)) :=
 (impl_ConstraintValid c_).bind fun r1_ =>
 cond (!r1_) (
  some (false, (0:Int), ([] : List D1_))) (
  (impl_within variable_ (1:Int) (12:Int)).bind fun r2_ =>
  cond (!r2_) (
   some (false, (0:Int), ([] : List D1_))) (
   loop (impl_WeakenConstraint_l1 c_ variable_) ((0:Int), c_.2, ([] : List D1_))))

/-- impl.LiteralAxiom -/
noncomputable def impl_LiteralAxiom (lit : Int) : Option (Bool × Int × (List D1_)) :=
 (impl_isLiteral lit).bind fun r1_ =>
 cond (!r1_) (
  some (false, (0:Int), ([] : List D1_))) (
  some (true, (0:Int), [((1:Int), lit)]))

/-- (*impl.running).left -/
noncomputable def impl_running_left__Rss_l1 (o1 : List D2_) (o2 : List Bool) : Int × (List D2_) → Option ((Int × (List D2_)) ⊕ (List D2_)) := fun (i, out) =>
 cond (decide (i < (o1.length:Int))) (
  rq (0 ≤ i ∧ i < o1.length) <|
  rq (0 ≤ i ∧ i < o2.length) <|
  cond (!(o2.getD i.toNat false)) (
   rq (out.length + [(o1.getD i.toNat ([], 0))].length ≤ bound) <|
   rq (i64 (i + (1:Int))) <|
   some (.inl ((i + (1:Int)), (out ++ [(o1.getD i.toNat ([], 0))])))) (
   rq (i64 (i + (1:Int))) <|
   some (.inl ((i + (1:Int)), out)))) (
  some (.inr out))

noncomputable def impl_running_left__Rss (o1 : List D2_) (o2 : List Bool) : Option (List D2_) :=
 loop (impl_running_left__Rss_l1 o1 o2) ((0:Int), ([] : List D2_))

/-- (impl.Constraint).total -/
noncomputable def impl_Constraint_total_l1 (c_ : (List D1_) × Int) : Int × Int → Option ((Int × Int) ⊕ Int) := fun (sum, i) =>
 cond (decide (i < (c_.1.length:Int))) (
  rq (0 ≤ i ∧ i < c_.1.length) <|
  rq (i64 (sum + (c_.1.getD i.toNat (0, 0)).1)) <|
  rq (i64 (i + (1:Int))) <|
  some (.inl ((sum + (c_.1.getD i.toNat (0, 0)).1), (i + (1:Int))))) (
  some (.inr sum))

noncomputable def impl_Constraint_total (c_ : (List D1_) × Int) : Option Int :=
 loop (impl_Constraint_total_l1 c_) ((0:Int), (0:Int))

/-- (impl.Constraint).negation -/
noncomputable def impl_Constraint_negation_j3 (c_ : (List D1_) × Int) (i : Int) (out_0 : List D1_) : Unit → Option ((Int × (List D1_)) ⊕ (Int × (List D1_))) := fun _ =>
 rq (i64 (0 - (c_.1.getD i.toNat (0, 0)).2)) <|
 rq (out_0.length + [((c_.1.getD i.toNat (0, 0)).1, (0 - (c_.1.getD i.toNat (0, 0)).2))].length ≤ bound) <|
 rq (i64 (i + (1:Int))) <|
 some (.inl ((i + (1:Int)), (out_0 ++ [((c_.1.getD i.toNat (0, 0)).1, (0 - (c_.1.getD i.toNat (0, 0)).2))])))

noncomputable def impl_Constraint_negation_l1 (c_ : (List D1_) × Int) (out_1 : Int) : Int × (List D1_) → Option ((Int × (List D1_)) ⊕ (Int × (List D1_))) := fun (i, out_0) =>
 cond (decide (i < (c_.1.length:Int))) (
  rq (0 ≤ i ∧ i < c_.1.length) <|
  impl_Constraint_negation_j3 c_ i out_0 ()) (
  some (.inr (out_1, out_0)))

noncomputable def impl_Constraint_negation_j2 (c_ : (List D1_) × Int) : Int → Option (Int × (List D1_)) := fun out_1 =>
 loop (impl_Constraint_negation_l1 c_ out_1) ((0:Int), ([] : List D1_))

noncomputable def impl_Constraint_negation_j1 (c_ : (List D1_) × Int) : Unit → Option (Int × (List D1_)) := fun _ =>
 (impl_Constraint_total c_).bind fun r2_ =>
 rq (i64 (r2_ - c_.2)) <|
 rq (i64 ((r2_ - c_.2) + (1:Int))) <|
 impl_Constraint_negation_j2 c_ (max (0:Int) ((r2_ - c_.2) + (1:Int)))

noncomputable def impl_Constraint_negation (c_ : (List D1_) × Int) : Option (Int × (List D1_)) :=
 impl_Constraint_negation_j1 c_ ()

/-- slices.Clone[[]int,int] -/
noncomputable def slices_Clone_int (s_ : List Int) : Option (List Int) :=
 nt (s_ = []) (
  some ([] : List Int)) (
  rq (([] : List Int).length + s_.length ≤ bound) <|
  some (([] : List Int) ++ s_))

/-- impl.under -/
noncomputable def impl_under (l : Int) (p : List Int) : Option Int :=
 cond (decide (l < (0:Int))) (
  rq (i64 (0 - l)) <|
  rq (i64 ((0 - l) - (1:Int))) <|
  rq (0 ≤ ((0 - l) - (1:Int)) ∧ ((0 - l) - (1:Int)) < p.length) <|
  rq (i64 (0 - (p.getD ((0 - l) - (1:Int)).toNat 0))) <|
  some (0 - (p.getD ((0 - l) - (1:Int)).toNat 0))) (
  rq (i64 (l - (1:Int))) <|
  rq (0 ≤ (l - (1:Int)) ∧ (l - (1:Int)) < p.length) <|
  some (p.getD (l - (1:Int)).toNat 0))

/-- (impl.Constraint).slack -/
noncomputable def impl_Constraint_slack_l1 (c_ : (List D1_) × Int) (p : List Int) : Int × Int → Option ((Int × Int) ⊕ Int) := fun (out, i) =>
 cond (decide (i < (c_.1.length:Int))) (
  rq (0 ≤ i ∧ i < c_.1.length) <|
  (impl_under (c_.1.getD i.toNat (0, 0)).2 p).bind fun r1_ =>
  cond (decide ((0:Int) ≤ r1_)) (
   rq (i64 (out + (c_.1.getD i.toNat (0, 0)).1)) <|
   rq (i64 (i + (1:Int))) <|
   some (.inl ((out + (c_.1.getD i.toNat (0, 0)).1), (i + (1:Int))))) (
   rq (i64 (i + (1:Int))) <|
   some (.inl (out, (i + (1:Int)))))) (
  some (.inr out))

noncomputable def impl_Constraint_slack (c_ : (List D1_) × Int) (p : List Int) : Option Int :=
 rq (i64 (0 - c_.2)) <|
 loop (impl_Constraint_slack_l1 c_ p) ((0 - c_.2), (0:Int))

/-- (impl.Constraint).implied -/
noncomputable def impl_Constraint_implied_l1 (c_ : (List D1_) × Int) (p : List Int) (r1_ : Int) : Int × (List Int) → Option ((Int × (List Int)) ⊕ (List Int)) := fun (i, out) =>
 cond (decide (i < (c_.1.length:Int))) (
  rq (0 ≤ i ∧ i < c_.1.length) <|
  (impl_under (c_.1.getD i.toNat (0, 0)).2 p).bind fun r3_ =>
  cond (r3_ == (0:Int)) (
   cond (decide (r1_ < (c_.1.getD i.toNat (0, 0)).1)) (
    rq (out.length + [(c_.1.getD i.toNat (0, 0)).2].length ≤ bound) <|
    rq (i64 (i + (1:Int))) <|
    some (.inl ((i + (1:Int)), (out ++ [(c_.1.getD i.toNat (0, 0)).2])))) (
    rq (i64 (i + (1:Int))) <|
    some (.inl ((i + (1:Int)), out)))) (
   rq (i64 (i + (1:Int))) <|
   some (.inl ((i + (1:Int)), out)))) (
  some (.inr out))

noncomputable def impl_Constraint_implied (c_ : (List D1_) × Int) (p : List Int) : Option (List Int) :=
 (impl_Constraint_slack c_ p).bind fun r1_ =>
 loop (impl_Constraint_implied_l1 c_ p r1_) ((0:Int), ([] : List Int))

/-- impl.propagate -/
noncomputable def impl_propagate_l3 (i3 : Int) (r9_ : (List Int)) : Bool × Int × (List Int) → Option ((Bool × Int × (List Int)) ⊕ ((Bool × Int × (List Int)) ⊕ ((Bool × (List Int)) ⊕ (Int × (List Int))))) := fun (made6, i5, out6) =>
 cond (decide (i5 < (r9_.length:Int))) (
  rq (0 ≤ i5 ∧ i5 < r9_.length) <|
  cond (decide ((0:Int) < (r9_.getD i5.toNat 0))) (
   rq (i64 ((r9_.getD i5.toNat 0) - (1:Int))) <|
   rq (0 ≤ ((r9_.getD i5.toNat 0) - (1:Int)) ∧ ((r9_.getD i5.toNat 0) - (1:Int)) < out6.length) <|
   rq (i64 (i5 + (1:Int))) <|
   some (.inl (true, (i5 + (1:Int)), (out6.set ((r9_.getD i5.toNat 0) - (1:Int)).toNat (1:Int))))) (
   rq (i64 (0 - (r9_.getD i5.toNat 0))) <|
   rq (i64 ((0 - (r9_.getD i5.toNat 0)) - (1:Int))) <|
   rq (0 ≤ ((0 - (r9_.getD i5.toNat 0)) - (1:Int)) ∧ ((0 - (r9_.getD i5.toNat 0)) - (1:Int)) < out6.length) <|
   rq (i64 (i5 + (1:Int))) <|
   some (.inl (true, (i5 + (1:Int)), (out6.set ((0 - (r9_.getD i5.toNat 0)) - (1:Int)).toNat (-1:Int)))))) (
  rq (i64 (i3 + (1:Int))) <|
  some (.inr (.inl (made6, (i3 + (1:Int)), out6))))

noncomputable def impl_propagate_l2 (list_ : List D2_) : Bool × Int × (List Int) → Option ((Bool × Int × (List Int)) ⊕ ((Bool × (List Int)) ⊕ (Int × (List Int)))) := fun (made4, i3, out5) =>
 cond (decide (i3 < (list_.length:Int))) (
  rq (0 ≤ i3 ∧ i3 < list_.length) <|
  (impl_Constraint_slack (list_.getD i3.toNat ([], 0)) out5).bind fun r8_ =>
  cond (decide (r8_ < (0:Int))) (
   some (.inr (.inr (i3, out5)))) (
   (impl_Constraint_implied (list_.getD i3.toNat ([], 0)) out5).bind fun r9_ =>
   loop (impl_propagate_l3 i3 r9_) (made4, (0:Int), out5))) (
  some (.inr (.inl (made4, out5))))

noncomputable def impl_propagate_l1 (list_ : List D2_) : Bool × (List Int) → Option ((Bool × (List Int)) ⊕ (Int × (List Int))) := fun (made, out3) =>
 cond made (
  loop (impl_propagate_l2 list_) (false, (0:Int), out3)) (
  some (.inr ((-1:Int), out3)))

noncomputable def impl_propagate (list_ : List D2_) (p : List Int) : Option (Int × (List Int)) :=
 (slices_Clone_int p).bind fun r1_ =>
 loop (impl_propagate_l1 list_) (true, r1_)

/-- impl.rup -/
noncomputable def impl_rup_j1 : Int → Option Bool := fun i =>
 some (decide ((0:Int) ≤ i))

noncomputable def impl_rup (list_ : List D2_) (c_ : (List D1_) × Int) : Option Bool :=
 (slices_Clone_impl_Constraint list_).bind fun r4_ =>
 (impl_Constraint_negation c_).bind fun r5_ =>
 rq (r4_.length + [(r5_.2, r5_.1)].length ≤ bound) <|
 rq (0 ≤ (12:Int) ∧ (12:Int) ≤ bound ∧ (12:Int) = (12:Int)) <|
 (impl_propagate (r4_ ++ [(r5_.2, r5_.1)]) (List.replicate (12:Int).toNat 0)).bind fun r6_ =>
 impl_rup_j1 r6_.1

/-- (*impl.running).step -/
noncomputable def impl_running_step__Rss_j4 (o1 : List D2_) (o2 : List Bool) (i : (List D1_) × Int) (i1 : Bool) : Unit → Option (Bool × (List D2_) × (List Bool)) := fun _ =>
 some (i1, (o1 ++ [i]), (o2 ++ [false]))

noncomputable def impl_running_step__Rss_j3 (o1 : List D2_) (o2 : List Bool) : D2_ × Bool → Option (Bool × (List D2_) × (List Bool)) := fun (i, i1) =>
 rq (o1.length + [i].length ≤ bound) <|
 rq (o2.length + [false].length ≤ bound) <|
 impl_running_step__Rss_j4 o1 o2 i i1 ()

noncomputable def impl_running_step__Rss_j2 (a1 : Int × Int × Int × (List D1_) × Int) (o1 : List D2_) (o2 : List Bool) : Unit → Option (Bool × (List D2_) × (List Bool)) := fun _ =>
 cond (a1.1 == (8:Int)) (
  rq (0 ≤ a1.2.1 ∧ a1.2.1 < o2.length) <|
  some (true, o1, (o2.set a1.2.1.toNat true))) (
  cond (a1.1 == (1:Int)) (
   rq (0 ≤ a1.2.1 ∧ a1.2.1 < o1.length) <|
   rq (0 ≤ a1.2.2.1 ∧ a1.2.2.1 < o1.length) <|
   (impl_AddConstraints (o1.getD a1.2.1.toNat ([], 0)) (o1.getD a1.2.2.1.toNat ([], 0))).bind fun r7_ =>
   impl_running_step__Rss_j3 o1 o2 ((r7_.2.2, r7_.2.1), r7_.1)) (
   cond (a1.1 == (2:Int)) (
    rq (0 ≤ a1.2.1 ∧ a1.2.1 < o1.length) <|
    (impl_MultiplyConstraint (o1.getD a1.2.1.toNat ([], 0)) a1.2.2.1).bind fun r9_ =>
    impl_running_step__Rss_j3 o1 o2 (r9_.2, r9_.1)) (
    cond (a1.1 == (3:Int)) (
     rq (0 ≤ a1.2.1 ∧ a1.2.1 < o1.length) <|
     (impl_DivideConstraint (o1.getD a1.2.1.toNat ([], 0)) a1.2.2.1).bind fun r11_ =>
     impl_running_step__Rss_j3 o1 o2 (r11_.2, r11_.1)) (
     cond (a1.1 == (4:Int)) (
      rq (0 ≤ a1.2.1 ∧ a1.2.1 < o1.length) <|
      (impl_SaturateConstraint (o1.getD a1.2.1.toNat ([], 0))).bind fun r13_ =>
      impl_running_step__Rss_j3 o1 o2 ((r13_.2.2, r13_.2.1), r13_.1)) (
      cond (a1.1 == (5:Int)) (
       rq (0 ≤ a1.2.1 ∧ a1.2.1 < o1.length) <|
       (impl_WeakenConstraint (o1.getD a1.2.1.toNat ([], 0)) a1.2.2.1).bind fun r15_ =>
       impl_running_step__Rss_j3 o1 o2 ((r15_.2.2, r15_.2.1), r15_.1)) (
       cond (a1.1 == (6:Int)) (
        (impl_LiteralAxiom a1.2.1).bind fun r16_ =>
        impl_running_step__Rss_j3 o1 o2 ((r16_.2.2, r16_.2.1), r16_.1)) (
        cond (a1.1 == (7:Int)) (
         (impl_ConstraintValid a1.2.2.2).bind fun r20_ =>
         cond r20_ (
          (impl_running_left__Rss o1 o2).bind fun r21_ =>
          (impl_rup r21_ a1.2.2.2).bind fun r22_ =>
          impl_running_step__Rss_j3 o1 o2 (a1.2.2.2, r22_)) (
          impl_running_step__Rss_j3 o1 o2 (a1.2.2.2, false))) (
         impl_running_step__Rss_j3 o1 o2 ((([] : List D1_), (0:Int)), false)))))))))

noncomputable def impl_running_step__Rss_j1 (a1 : Int × Int × Int × (List D1_) × Int) (o1 : List D2_) (o2 : List Bool) : Unit → Option (Bool × (List D2_) × (List Bool)) := fun _ =>
 (impl_refers a1.1).bind fun r1_ =>
 (impl_Step_shaped a1).bind fun r2_ =>
 cond (!r2_) (
  some (false, o1, o2)) (
  cond (decide ((0:Int) < r1_.1)) (
   (impl_running_has__Rss a1.2.1 o1 o2).bind fun r3_ =>
   cond (!r3_) (
    some (false, o1, o2)) (
    cond (decide ((1:Int) < r1_.1)) (
     (impl_running_has__Rss a1.2.2.1 o1 o2).bind fun r4_ =>
     cond (!r4_) (
      some (false, o1, o2)) (
      impl_running_step__Rss_j2 a1 o1 o2 ())) (
     impl_running_step__Rss_j2 a1 o1 o2 ()))) (
   cond (decide ((1:Int) < r1_.1)) (
    (impl_running_has__Rss a1.2.2.1 o1 o2).bind fun r5_ =>
    cond (!r5_) (
     some (false, o1, o2)) (
     impl_running_step__Rss_j2 a1 o1 o2 ())) (
    impl_running_step__Rss_j2 a1 o1 o2 ())))

noncomputable def impl_running_step__Rss (a1 : Int × Int × Int × (List D1_) × Int) (o1 : List D2_) (o2 : List Bool) : Option (Bool × (List D2_) × (List Bool)) :=
 impl_running_step__Rss_j1 a1 o1 o2 ()

/-- impl.run -/
noncomputable def impl_run_l1 (steps : List D5_) : Int × (List D2_) × (List Bool) → Option ((Int × (List D2_) × (List Bool)) ⊕ (Bool × Int × (List D2_) × (List Bool) × Int)) := fun (i, r_01, r_1) =>
 cond (decide (i < (steps.length:Int))) (
  rq (0 ≤ i ∧ i < steps.length) <|
  (impl_running_step__Rss (steps.getD i.toNat (0, (0, (0, ([], 0))))) r_01 r_1).bind fun r5_ =>
  cond (!r5_.1) (
   some (.inr (false, 0, [], [], i))) (
   rq (i64 (i + (1:Int))) <|
   some (.inl ((i + (1:Int)), r5_.2.1, r5_.2.2)))) (
  some (.inr (true, (-1:Int), r_01, r_1, 0)))

noncomputable def impl_run_j1 (list_ : List D2_) (steps : List D5_) : (List D2_) → Option (Bool × Int × (List D2_) × (List Bool) × Int) := fun r_0 =>
 loop (impl_run_l1 steps) ((0:Int), r_0, (List.replicate (list_.length:Int).toNat false))

noncomputable def impl_run (list_ : List D2_) (steps : List D5_) : Option (Bool × Int × (List D2_) × (List Bool) × Int) :=
 (impl_ProblemValid list_).bind fun r1_ =>
 cond (!r1_) (
  some (false, 0, [], [], (0:Int))) (
  cond (decide ((1000:Int) < (steps.length:Int))) (
   some (false, 0, [], [], (0:Int))) (
   (slices_Clone_impl_Constraint list_).bind fun r3_ =>
   rq (0 ≤ (list_.length:Int) ∧ (list_.length:Int) ≤ bound ∧ (list_.length:Int) = (list_.length:Int)) <|
   impl_run_j1 list_ steps r3_))

/-- impl.ConstraintFalse -/
noncomputable def impl_ConstraintFalse (c_ : (List D1_) × Int) : Option Bool :=
 (impl_ConstraintValid c_).bind fun r3_ =>
 cond r3_ (
  (impl_Constraint_total c_).bind fun r4_ =>
  some (decide (r4_ < c_.2))) (
  some false)

/-- impl.refuting -/
noncomputable def impl_refuting_l1 (r1_ : Bool × Int × (List D2_) × (List Bool) × Int) : Int → Option (Int ⊕ (Bool × Int × (List D2_) × (List Bool) × Int)) := fun i =>
 cond (decide (i < (r1_.2.2.1.length:Int))) (
  rq (0 ≤ i ∧ i < r1_.2.2.1.length) <|
  rq (0 ≤ i ∧ i < r1_.2.2.2.1.length) <|
  cond (!(r1_.2.2.2.1.getD i.toNat false)) (
   (impl_ConstraintFalse (r1_.2.2.1.getD i.toNat ([], 0))).bind fun r2_ =>
   cond r2_ (
    some (.inr (true, i, r1_.2.2.1, r1_.2.2.2.1, 0))) (
    rq (i64 (i + (1:Int))) <|
    some (.inl (i + (1:Int))))) (
   rq (i64 (i + (1:Int))) <|
   some (.inl (i + (1:Int))))) (
  some (.inr (true, (-1:Int), r1_.2.2.1, r1_.2.2.2.1, 0)))

noncomputable def impl_refuting (list_ : List D2_) (steps : List D5_) : Option (Bool × Int × (List D2_) × (List Bool) × Int) :=
 (impl_run list_ steps).bind fun r1_ =>
 cond r1_.1 (
  cond (decide ((0:Int) ≤ r1_.2.1)) (
   some (false, 0, [], [], (-1:Int))) (
   loop (impl_refuting_l1 r1_) (0:Int))) (
  cond (decide ((0:Int) ≤ r1_.2.2.2.2)) (
   some (false, 0, [], [], (-1:Int))) (
   none))

/-- impl.needed -/
noncomputable def impl_needed_l2 (i3 : Int) : Int × (List Bool) → Option ((Int × (List Bool)) ⊕ ((Int × (List Bool)) ⊕ (Bool × (List Bool)))) := fun (i8, i9) =>
 cond (decide (i8 < i3)) (
  rq (0 ≤ i8 ∧ i8 < i9.length) <|
  rq (i64 (i8 + (1:Int))) <|
  some (.inl ((i8 + (1:Int)), (i9.set i8.toNat true)))) (
  rq (i64 (i3 - (1:Int))) <|
  some (.inr (.inl ((i3 - (1:Int)), i9))))

noncomputable def impl_needed_j2 (a0 : List D2_) (i2 : List D5_) (i3 : Int) (i7 : List Bool) (r3_ : Int × Bool) : Unit → Option ((Int × (List Bool)) ⊕ (Bool × (List Bool))) := fun _ =>
 cond (decide ((1:Int) < r3_.1)) (
  rq (0 ≤ (i2.getD (i3 - (a0.length:Int)).toNat (0, (0, (0, ([], 0))))).2.2.1 ∧ (i2.getD (i3 - (a0.length:Int)).toNat (0, (0, (0, ([], 0))))).2.2.1 < (i7.set (i2.getD (i3 - (a0.length:Int)).toNat (0, (0, (0, ([], 0))))).2.1.toNat true).length) <|
  rq (i64 (i3 - (1:Int))) <|
  some (.inl ((i3 - (1:Int)), ((i7.set (i2.getD (i3 - (a0.length:Int)).toNat (0, (0, (0, ([], 0))))).2.1.toNat true).set (i2.getD (i3 - (a0.length:Int)).toNat (0, (0, (0, ([], 0))))).2.2.1.toNat true)))) (
  rq (i64 (i3 - (1:Int))) <|
  some (.inl ((i3 - (1:Int)), (i7.set (i2.getD (i3 - (a0.length:Int)).toNat (0, (0, (0, ([], 0))))).2.1.toNat true))))

noncomputable def impl_needed_l1 (a0 : List D2_) (i2 : List D5_) : Int × (List Bool) → Option ((Int × (List Bool)) ⊕ (Bool × (List Bool))) := fun (i3, i7) =>
 cond (decide ((a0.length:Int) ≤ i3)) (
  rq (i64 (i3 - (a0.length:Int))) <|
  rq (0 ≤ (i3 - (a0.length:Int)) ∧ (i3 - (a0.length:Int)) < i2.length) <|
  (impl_refers (i2.getD (i3 - (a0.length:Int)).toNat (0, (0, (0, ([], 0))))).1).bind fun r3_ =>
  rq (0 ≤ i3 ∧ i3 < i7.length) <|
  cond (!(i7.getD i3.toNat false)) (
   rq (i64 (i3 - (1:Int))) <|
   some (.inl ((i3 - (1:Int)), i7))) (
   cond ((i2.getD (i3 - (a0.length:Int)).toNat (0, (0, (0, ([], 0))))).1 == (7:Int)) (
    loop (impl_needed_l2 i3) ((0:Int), i7)) (
    cond (decide ((0:Int) < r3_.1)) (
     rq (0 ≤ (i2.getD (i3 - (a0.length:Int)).toNat (0, (0, (0, ([], 0))))).2.1 ∧ (i2.getD (i3 - (a0.length:Int)).toNat (0, (0, (0, ([], 0))))).2.1 < i7.length) <|
     impl_needed_j2 a0 i2 i3 i7 r3_ ()) (
     rq (i64 (i3 - (1:Int))) <|
     some (.inl ((i3 - (1:Int)), i7)))))) (
  some (.inr (true, i7)))

noncomputable def impl_needed_j1 (a0 : List D2_) (r1_ : Bool × Int × (List D2_) × (List Bool) × Int) : (List D5_) → Option (Bool × (List Bool)) := fun i2 =>
 rq (0 ≤ (r1_.2.2.1.length:Int) ∧ (r1_.2.2.1.length:Int) ≤ bound ∧ (r1_.2.2.1.length:Int) = (r1_.2.2.1.length:Int)) <|
 rq (0 ≤ r1_.2.1 ∧ r1_.2.1 < (List.replicate (r1_.2.2.1.length:Int).toNat false).length) <|
 rq (i64 ((r1_.2.2.1.length:Int) - (1:Int))) <|
 loop (impl_needed_l1 a0 i2) (((r1_.2.2.1.length:Int) - (1:Int)), ((List.replicate (r1_.2.2.1.length:Int).toNat false).set r1_.2.1.toNat true))

noncomputable def impl_needed_l3 (a0 : List D2_) (a1 : List D5_) (r1_ : Bool × Int × (List D2_) × (List Bool) × Int) : Int × (List D5_) → Option ((Int × (List D5_)) ⊕ (Bool × (List Bool))) := fun (i, i1) =>
 cond (decide (i < (a1.length:Int))) (
  rq (0 ≤ i ∧ i < a1.length) <|
  cond ((a1.getD i.toNat (0, (0, (0, ([], 0))))).1 != (8:Int)) (
   rq (i1.length + [(a1.getD i.toNat (0, (0, (0, ([], 0)))))].length ≤ bound) <|
   rq (i64 (i + (1:Int))) <|
   some (.inl ((i + (1:Int)), (i1 ++ [(a1.getD i.toNat (0, (0, (0, ([], 0)))))])))) (
   rq (i64 (i + (1:Int))) <|
   some (.inl ((i + (1:Int)), i1)))) (
  up (impl_needed_j1 a0 r1_ i1))

noncomputable def impl_needed_j3 : (List D5_) → Option (Bool × (List Bool)) := fun i12 =>
 none

noncomputable def impl_needed_l4 (a1 : List D5_) : Int × (List D5_) → Option ((Int × (List D5_)) ⊕ (Bool × (List Bool))) := fun (i10, i11) =>
 cond (decide (i10 < (a1.length:Int))) (
  rq (0 ≤ i10 ∧ i10 < a1.length) <|
  cond ((a1.getD i10.toNat (0, (0, (0, ([], 0))))).1 != (8:Int)) (
   rq (i11.length + [(a1.getD i10.toNat (0, (0, (0, ([], 0)))))].length ≤ bound) <|
   rq (i64 (i10 + (1:Int))) <|
   some (.inl ((i10 + (1:Int)), (i11 ++ [(a1.getD i10.toNat (0, (0, (0, ([], 0)))))])))) (
   rq (i64 (i10 + (1:Int))) <|
   some (.inl ((i10 + (1:Int)), i11)))) (
  up (impl_needed_j3 i11))

noncomputable def impl_needed (a0 : List D2_) (a1 : List D5_) : Option (Bool × (List Bool)) :=
 (impl_refuting a0 a1).bind fun r1_ =>
 cond r1_.1 (
  cond (decide (r1_.2.1 < (0:Int))) (
   some (false, ([] : List Bool))) (
   loop (impl_needed_l3 a0 a1 r1_) ((0:Int), ([] : List D5_)))) (
  cond (decide (r1_.2.2.2.2 < (0:Int))) (
   some (false, ([] : List Bool))) (
   loop (impl_needed_l4 a1) ((0:Int), ([] : List D5_))))

/-- impl.UsedInputs -/
noncomputable def impl_UsedInputs_l1 (list_ : List D2_) (r1_ : Bool × (List Bool)) : Int × (List Int) → Option ((Int × (List Int)) ⊕ (Bool × (List Int))) := fun (i, out) =>
 cond (decide (i < (list_.length:Int))) (
  rq (0 ≤ i ∧ i < r1_.2.length) <|
  cond (r1_.2.getD i.toNat false) (
   rq (out.length + [i].length ≤ bound) <|
   rq (i64 (i + (1:Int))) <|
   some (.inl ((i + (1:Int)), (out ++ [i])))) (
   rq (i64 (i + (1:Int))) <|
   some (.inl ((i + (1:Int)), out)))) (
  some (.inr (true, out)))

noncomputable def impl_UsedInputs (list_ : List D2_) (steps : List D5_) : Option (Bool × (List Int)) :=
 (impl_needed list_ steps).bind fun r1_ =>
 cond (!r1_.1) (
  some (false, ([] : List Int))) (
  loop (impl_UsedInputs_l1 list_ r1_) ((0:Int), ([] : List Int)))

/-- laws.eqIntS -/
noncomputable def laws_eqIntS_l1 (a : List Int) (b : List Int) : Int → Option (Int ⊕ Bool) := fun i =>
 cond (decide (i < (a.length:Int))) (
  rq (0 ≤ i ∧ i < a.length) <|
  rq (0 ≤ i ∧ i < b.length) <|
  cond ((a.getD i.toNat 0) != (b.getD i.toNat 0)) (
   some (.inr false)) (
   rq (i64 (i + (1:Int))) <|
   some (.inl (i + (1:Int))))) (
  some (.inr true))

noncomputable def laws_eqIntS (a : List Int) (b : List Int) : Option Bool :=
 cond ((a.length:Int) != (b.length:Int)) (
  some false) (
  loop (laws_eqIntS_l1 a b) (0:Int))

/-- laws.eqTerm -/
noncomputable def laws_eqTerm (a : Int × Int) (b : Int × Int) : Option Bool :=
 cond (a.1 != b.1) (
  some false) (
  cond (a.2 != b.2) (
   some false) (
   some true))

/-- laws.eqTermS -/
noncomputable def laws_eqTermS_l1 (a : List D1_) (b : List D1_) : Int → Option (Int ⊕ Bool) := fun i =>
 cond (decide (i < (a.length:Int))) (
  rq (0 ≤ i ∧ i < a.length) <|
  rq (0 ≤ i ∧ i < b.length) <|
  (laws_eqTerm (a.getD i.toNat (0, 0)) (b.getD i.toNat (0, 0))).bind fun r2_ =>
  cond (!r2_) (
   some (.inr false)) (
   rq (i64 (i + (1:Int))) <|
   some (.inl (i + (1:Int))))) (
  some (.inr true))

noncomputable def laws_eqTermS (a : List D1_) (b : List D1_) : Option Bool :=
 cond ((a.length:Int) != (b.length:Int)) (
  some false) (
  loop (laws_eqTermS_l1 a b) (0:Int))

/-- laws.eqConstraint -/
noncomputable def laws_eqConstraint (a : (List D1_) × Int) (b : (List D1_) × Int) : Option Bool :=
 (laws_eqTermS a.1 b.1).bind fun r1_ =>
 cond (!r1_) (
  some false) (
  cond (a.2 != b.2) (
   some false) (
   some true))

/-- laws.eqConstraintS -/
noncomputable def laws_eqConstraintS_l1 (a : List D2_) (b : List D2_) : Int → Option (Int ⊕ Bool) := fun i =>
 cond (decide (i < (a.length:Int))) (
  rq (0 ≤ i ∧ i < a.length) <|
  rq (0 ≤ i ∧ i < b.length) <|
  (laws_eqConstraint (a.getD i.toNat ([], 0)) (b.getD i.toNat ([], 0))).bind fun r2_ =>
  cond (!r2_) (
   some (.inr false)) (
   rq (i64 (i + (1:Int))) <|
   some (.inl (i + (1:Int))))) (
  some (.inr true))

noncomputable def laws_eqConstraintS (a : List D2_) (b : List D2_) : Option Bool :=
 cond ((a.length:Int) != (b.length:Int)) (
  some false) (
  loop (laws_eqConstraintS_l1 a b) (0:Int))

/-- laws.eqStep -/
noncomputable def laws_eqStep (a : Int × Int × Int × (List D1_) × Int) (b : Int × Int × Int × (List D1_) × Int) : Option Bool :=
 cond (a.1 != b.1) (
  some false) (
  cond (a.2.1 != b.2.1) (
   some false) (
   cond (a.2.2.1 != b.2.2.1) (
    some false) (
    (laws_eqConstraint a.2.2.2 b.2.2.2).bind fun r1_ =>
    cond (!r1_) (
     some false) (
     some true))))

/-- laws.eqStepS -/
noncomputable def laws_eqStepS_l1 (a : List D5_) (b : List D5_) : Int → Option (Int ⊕ Bool) := fun i =>
 cond (decide (i < (a.length:Int))) (
  rq (0 ≤ i ∧ i < a.length) <|
  rq (0 ≤ i ∧ i < b.length) <|
  (laws_eqStep (a.getD i.toNat (0, (0, (0, ([], 0))))) (b.getD i.toNat (0, (0, (0, ([], 0)))))).bind fun r2_ =>
  cond (!r2_) (
   some (.inr false)) (
   rq (i64 (i + (1:Int))) <|
   some (.inl (i + (1:Int))))) (
  some (.inr true))

noncomputable def laws_eqStepS (a : List D5_) (b : List D5_) : Option Bool :=
 cond ((a.length:Int) != (b.length:Int)) (
  some false) (
  loop (laws_eqStepS_l1 a b) (0:Int))

/-- laws.markTermS -/
noncomputable def laws_markTermS__d_j1 (k_1 : Int) (i : Int) : (List D1_) → Option ((Int × Int × (List D1_)) ⊕ (Int × (List D1_))) := fun a3 =>
 rq (i64 ((k_1 + (1:Int)) + (1:Int))) <|
 rq (i64 (i + (1:Int))) <|
 some (.inl (((k_1 + (1:Int)) + (1:Int)), (i + (1:Int)), a3))

noncomputable def laws_markTermS__d_l1 : Int × Int × (List D1_) → Option ((Int × Int × (List D1_)) ⊕ (Int × (List D1_))) := fun (k_1, i, a2) =>
 cond (decide (i < (a2.length:Int))) (
  rq (0 ≤ i ∧ i < a2.length) <|
  rq (i64 (k_1 + (1:Int))) <|
  rq (0 ≤ i ∧ i < (a2.set i.toNat (k_1, (a2.getD i.toNat (0, 0)).2)).length) <|
  laws_markTermS__d_j1 k_1 i ((a2.set i.toNat (k_1, (a2.getD i.toNat (0, 0)).2)).set i.toNat (((a2.set i.toNat (k_1, (a2.getD i.toNat (0, 0)).2)).getD i.toNat (0, 0)).1, (k_1 + (1:Int))))) (
  some (.inr (k_1, a2)))

noncomputable def laws_markTermS__d (k_ : Int) (a : List D1_) : Option (Int × (List D1_)) :=
 loop (laws_markTermS__d_l1) (k_, (0:Int), a)

/-- laws.markConstraintS -/
noncomputable def laws_markConstraintS_l1 : Int × Int × (List D2_) → Option ((Int × Int × (List D2_)) ⊕ (Int × (List D2_))) := fun (k_1, i, a1) =>
 cond (decide (i < (a1.length:Int))) (
  rq (0 ≤ i ∧ i < a1.length) <|
  (laws_markTermS__d k_1 (a1.getD i.toNat ([], 0)).1).bind fun r2_ =>
  rq (0 ≤ i ∧ i < a1.length) <|
  rq (i64 (r2_.1 + (1:Int))) <|
  rq (i64 (i + (1:Int))) <|
  some (.inl ((r2_.1 + (1:Int)), (i + (1:Int)), ((a1.set i.toNat ((a1.getD i.toNat ([], 0)).1, r2_.1)).set i.toNat (r2_.2, ((a1.set i.toNat ((a1.getD i.toNat ([], 0)).1, r2_.1)).getD i.toNat ([], 0)).2))))) (
  some (.inr (k_1, a1)))

noncomputable def laws_markConstraintS (k_ : Int) (a : List D2_) : Option (Int × (List D2_)) :=
 loop (laws_markConstraintS_l1) (k_, (0:Int), a)

/-- laws.markStepS -/
noncomputable def laws_markStepS_j3 (i : Int) (r2_ : Int × (List D1_)) : (List D5_) → Option ((Int × Int × (List D5_)) ⊕ (Int × (List D5_))) := fun a7 =>
 rq (i64 (r2_.1 + (1:Int))) <|
 rq (i64 (i + (1:Int))) <|
 some (.inl ((r2_.1 + (1:Int)), (i + (1:Int)), a7))

noncomputable def laws_markStepS_j2 (k_1 : Int) (i : Int) : (List D5_) → Option ((Int × Int × (List D5_)) ⊕ (Int × (List D5_))) := fun a6 =>
 rq (i64 (((k_1 + (1:Int)) + (1:Int)) + (1:Int))) <|
 rq (0 ≤ i ∧ i < a6.length) <|
 (laws_markTermS__d (((k_1 + (1:Int)) + (1:Int)) + (1:Int)) (a6.getD i.toNat (0, (0, (0, ([], 0))))).2.2.2.1).bind fun r2_ =>
 rq (0 ≤ i ∧ i < a6.length) <|
 laws_markStepS_j3 i r2_ ((a6.set i.toNat ((a6.getD i.toNat (0, (0, (0, ([], 0))))).1, ((a6.getD i.toNat (0, (0, (0, ([], 0))))).2.1, ((a6.getD i.toNat (0, (0, (0, ([], 0))))).2.2.1, ((a6.getD i.toNat (0, (0, (0, ([], 0))))).2.2.2.1, r2_.1))))).set i.toNat (((a6.set i.toNat ((a6.getD i.toNat (0, (0, (0, ([], 0))))).1, ((a6.getD i.toNat (0, (0, (0, ([], 0))))).2.1, ((a6.getD i.toNat (0, (0, (0, ([], 0))))).2.2.1, ((a6.getD i.toNat (0, (0, (0, ([], 0))))).2.2.2.1, r2_.1))))).getD i.toNat (0, (0, (0, ([], 0))))).1, (((a6.set i.toNat ((a6.getD i.toNat (0, (0, (0, ([], 0))))).1, ((a6.getD i.toNat (0, (0, (0, ([], 0))))).2.1, ((a6.getD i.toNat (0, (0, (0, ([], 0))))).2.2.1, ((a6.getD i.toNat (0, (0, (0, ([], 0))))).2.2.2.1, r2_.1))))).getD i.toNat (0, (0, (0, ([], 0))))).2.1, (((a6.set i.toNat ((a6.getD i.toNat (0, (0, (0, ([], 0))))).1, ((a6.getD i.toNat (0, (0, (0, ([], 0))))).2.1, ((a6.getD i.toNat (0, (0, (0, ([], 0))))).2.2.1, ((a6.getD i.toNat (0, (0, (0, ([], 0))))).2.2.2.1, r2_.1))))).getD i.toNat (0, (0, (0, ([], 0))))).2.2.1, (r2_.2, ((a6.set i.toNat ((a6.getD i.toNat (0, (0, (0, ([], 0))))).1, ((a6.getD i.toNat (0, (0, (0, ([], 0))))).2.1, ((a6.getD i.toNat (0, (0, (0, ([], 0))))).2.2.1, ((a6.getD i.toNat (0, (0, (0, ([], 0))))).2.2.2.1, r2_.1))))).getD i.toNat (0, (0, (0, ([], 0))))).2.2.2.2)))))

noncomputable def laws_markStepS_j1 (k_1 : Int) (i : Int) : (List D5_) → Option ((Int × Int × (List D5_)) ⊕ (Int × (List D5_))) := fun a5 =>
 rq (i64 ((k_1 + (1:Int)) + (1:Int))) <|
 rq (0 ≤ i ∧ i < a5.length) <|
 laws_markStepS_j2 k_1 i (a5.set i.toNat ((a5.getD i.toNat (0, (0, (0, ([], 0))))).1, ((a5.getD i.toNat (0, (0, (0, ([], 0))))).2.1, (((k_1 + (1:Int)) + (1:Int)), (a5.getD i.toNat (0, (0, (0, ([], 0))))).2.2.2))))

noncomputable def laws_markStepS_l1 : Int × Int × (List D5_) → Option ((Int × Int × (List D5_)) ⊕ (Int × (List D5_))) := fun (k_1, i, a4) =>
 cond (decide (i < (a4.length:Int))) (
  rq (0 ≤ i ∧ i < a4.length) <|
  rq (i64 (k_1 + (1:Int))) <|
  rq (0 ≤ i ∧ i < (a4.set i.toNat (k_1, (a4.getD i.toNat (0, (0, (0, ([], 0))))).2)).length) <|
  laws_markStepS_j1 k_1 i ((a4.set i.toNat (k_1, (a4.getD i.toNat (0, (0, (0, ([], 0))))).2)).set i.toNat (((a4.set i.toNat (k_1, (a4.getD i.toNat (0, (0, (0, ([], 0))))).2)).getD i.toNat (0, (0, (0, ([], 0))))).1, ((k_1 + (1:Int)), ((a4.set i.toNat (k_1, (a4.getD i.toNat (0, (0, (0, ([], 0))))).2)).getD i.toNat (0, (0, (0, ([], 0))))).2.2)))) (
  some (.inr (k_1, a4)))

noncomputable def laws_markStepS (k_ : Int) (a : List D5_) : Option (Int × (List D5_)) :=
 loop (laws_markStepS_l1) (k_, (0:Int), a)

/-- laws.markIntS -/
noncomputable def laws_markIntS_l1 : Int × Int × (List Int) → Option ((Int × Int × (List Int)) ⊕ (Int × (List Int))) := fun (k_1, i, a1) =>
 cond (decide (i < (a1.length:Int))) (
  rq (0 ≤ i ∧ i < a1.length) <|
  rq (i64 (k_1 + (1:Int))) <|
  rq (i64 (i + (1:Int))) <|
  some (.inl ((k_1 + (1:Int)), (i + (1:Int)), (a1.set i.toNat k_1)))) (
  some (.inr (k_1, a1)))

noncomputable def laws_markIntS (k_ : Int) (a : List Int) : Option (Int × (List Int)) :=
 loop (laws_markIntS_l1) (k_, (0:Int), a)

/-- laws.heldIntS -/
noncomputable def laws_heldIntS_l1 (a : List Int) : Int × Int → Option ((Int × Int) ⊕ Int) := fun (k_1, i) =>
 cond (decide (i < (a.length:Int))) (
  rq (0 ≤ i ∧ i < a.length) <|
  cond ((a.getD i.toNat 0) != k_1) (
   some (.inr (-1:Int))) (
   rq (i64 (k_1 + (1:Int))) <|
   rq (i64 (i + (1:Int))) <|
   some (.inl ((k_1 + (1:Int)), (i + (1:Int)))))) (
  some (.inr k_1))

noncomputable def laws_heldIntS (a : List Int) (k_ : Int) : Option Int :=
 loop (laws_heldIntS_l1 a) (k_, (0:Int))

/-- laws.FnExactUsedInputs -/
noncomputable def laws_FnExactUsedInputs (a0 : List D2_) (a1 : List D5_) : Option Bool :=
 (laws_szConstraintS a0 (1048576:Int)).bind fun r1_ =>
 cond (decide (r1_ < (0:Int))) (
  some true) (
  (laws_szStepS a1 r1_).bind fun r2_ =>
  cond (decide (r2_ < (0:Int))) (
   some true) (
   (laws_toConstraintS a0).bind fun r3_ =>
   (laws_toStepS a1).bind fun r4_ =>
   (spec_UsedInputs r3_ r4_).bind fun r5_ =>
   (laws_toConstraintS a0).bind fun r6_ =>
   (laws_toStepS a1).bind fun r7_ =>
   (impl_UsedInputs r6_ r7_).bind fun r8_ =>
   (laws_eqIntS r8_.2 r5_.2).bind fun r9_ =>
   cond (!r9_) (
    some false) (
    cond (r8_.1 != r5_.1) (
     some false) (
     (laws_toConstraintS a0).bind fun r10_ =>
     (laws_eqConstraintS r6_ r10_).bind fun r11_ =>
     cond (!r11_) (
      some false) (
      (laws_toStepS a1).bind fun r12_ =>
      (laws_eqStepS r7_ r12_).bind fun r13_ =>
      cond (!r13_) (
       some false) (
       (laws_markConstraintS (1:Int) r6_).bind fun r14_ =>
       (laws_markStepS r14_.1 r7_).bind fun r15_ =>
       cond (decide (r15_.1 < (0:Int))) (
        some false) (
        (laws_eqIntS r8_.2 r5_.2).bind fun r16_ =>
        cond (!r16_) (
         some false) (
         cond (r8_.1 != r5_.1) (
          some false) (
          (laws_markIntS (1:Int) r8_.2).bind fun r17_ =>
          (laws_heldIntS r17_.2 (1:Int)).bind fun r18_ =>
          cond (decide (r18_ < (0:Int))) (
           some false) (
           cond (r18_ != r17_.1) (
            some false) (
            (laws_toConstraintS a0).bind fun r19_ =>
            (laws_toStepS a1).bind fun r20_ =>
            (impl_UsedInputs r19_ r20_).bind fun r21_ =>
            (laws_eqIntS r21_.2 r5_.2).bind fun r22_ =>
            cond (!r22_) (
             some false) (
             cond (r21_.1 != r5_.1) (
              some false) (
              (laws_heldIntS r17_.2 (1:Int)).bind fun r23_ =>
              cond (decide (r23_ < (0:Int))) (
               some false) (
               cond (r23_ != r17_.1) (
                some false) (
                some true)))))))))))))))

end Go.AE.Y
