/-
  Plain laws: copies, sizes and comparisons of the laws' own helpers; valid problems; violations.
-/
import Derived.Test.YtpjbfmifmikloaaP12
import Derived.Test.YtpjbfmifmikloaaAERow
namespace Go.AE.Y
open Go Go.AE

/-! ### Copies, sizes, comparisons -/

/-- Rows of terms that are not too long. -/
def smallC (a : List (List (Int × Int) × Int)) : Prop := a.length ≤ 1048576 ∧ ∀ x ∈ a, x.1.length ≤ 1048576

/-! ### Valid problems -/

/-- A term and what stands before it. -/
def termAt (c : List (Int × Int)) (i : Nat) : Bool :=
  isLit (c.getD i (0, 0)).2 && ((decide (1 ≤ (c.getD i (0, 0)).1) && decide ((c.getD i (0, 0)).1 ≤ 1000)) && (i == 0 || decide (vof (c.getD (i - 1) (0, 0)).2 < vof (c.getD i (0, 0)).2)))
def conB (c : List (Int × Int) × Int) : Bool := (List.range c.1.length).all (termAt c.1) && (decide (0 ≤ c.2) && decide (c.2 ≤ 20000))

theorem termAt_lit {c : List (Int × Int)} {i : Nat} (h : termAt c i = true) : isLit (c.getD i (0, 0)).2 = true := by
  unfold termAt at h; simp only [Bool.and_eq_true] at h; exact h.1

theorem spec_ConstraintValid_eq (c : List (Int × Int) × Int) (h : c.1.length ≤ 4000000000) : spec_ConstraintValid c = some (conB c) := by
  unfold spec_ConstraintValid conB
  rw [loop_all c.1.length (termAt c.1) false (decide (0 ≤ c.2) && decide (c.2 ≤ 20000))]
  · cases (List.range c.1.length).all (termAt c.1)
    · rw [cond_false, Bool.false_and]
    · rw [cond_true, Bool.true_and]
  · intro i hi hpre
    unfold spec_ConstraintValid_l1 termAt
    simp (disch := omega) only [cdec_pos, rq_pos, spec_l1Lit_eq, Option.bind_some, Int.toNat_natCast]
    cases hl : isLit (c.1.getD i (0, 0)).2 with
    | false => simp
    | true =>
      have hl' := isLit_iff.1 hl
      rw [cnt, tand]
      by_cases h1 : (c.1.getD i (0, 0)).1 < 1
      · rw [cdec_pos h1, decide_eq_false (show ¬ 1 ≤ (c.1.getD i (0, 0)).1 by omega)]; simp
      · rw [cdec_neg h1, decide_eq_true (show 1 ≤ (c.1.getD i (0, 0)).1 by omega)]
        by_cases h2 : 1000 < (c.1.getD i (0, 0)).1
        · rw [cdec_pos h2, decide_eq_false (show ¬ (c.1.getD i (0, 0)).1 ≤ 1000 by omega)]; simp
        · rw [cdec_neg h2, decide_eq_true (show (c.1.getD i (0, 0)).1 ≤ 1000 by omega)]
          by_cases h0 : i = 0
          · subst h0
            simp (disch := omega) only [cdec_neg, rq_i64]
            simp
          · have hp1 := isLit_iff.1 (termAt_lit (hpre (i - 1) (by omega)))
            have e1 : ((i : Int) - 1).toNat = i - 1 := by omega
            rw [show (i == 0) = false by simpa using h0]
            simp (disch := omega) only [cdec_pos, rq_i64, rq_pos, e1, spec_l1Abs_eq, Option.bind_some]
            by_cases hv : vof (c.1.getD (i - 1) (0, 0)).2 < vof (c.1.getD i (0, 0)).2
            · rw [cdec_neg (by omega), decide_eq_true hv]; simp
            · rw [cdec_pos (by omega), decide_eq_false hv]; simp
  · unfold spec_ConstraintValid_l1
    simp (disch := omega) only [cdec_neg]
    by_cases h1 : 0 ≤ c.2
    · rw [cdec_pos h1, decide_eq_true h1]; simp
    · rw [cdec_neg h1, decide_eq_false h1]; simp

theorem impl_within_eq (n a b : Int) : impl_within n a b = some (decide (a ≤ n) && decide (n ≤ b)) := by
  unfold impl_within
  by_cases h : a ≤ n
  · rw [cdec_pos h, decide_eq_true h]; simp
  · rw [cdec_neg h, decide_eq_false h]; simp

theorem impl_ConstraintValid_eq (c : List (Int × Int) × Int) (h : c.1.length ≤ 4000000000) : impl_ConstraintValid c = some (conB c) := by
  unfold impl_ConstraintValid
  refine loop_fn (fun s : Int × Int => ∃ i : Nat, s.2 = i ∧ i ≤ c.1.length ∧ s.1 = (if i = 0 then 0 else vof (c.1.getD (i - 1) (0, 0)).2) ∧ ∀ j, j < i → termAt c.1 j = true) (fun s => c.1.length - s.2.toNat) (fun _ => conB c) ?_ _ ⟨0, rfl, Nat.zero_le _, rfl, fun j hj => by omega⟩
  rintro ⟨b, s⟩ ⟨i, rfl, hi, hb, hpre⟩
  dsimp only at hb ⊢
  unfold impl_ConstraintValid_l1
  rcases Nat.lt_or_ge i c.1.length with h1 | h1
  · have bad : termAt c.1 i = false → conB c = false := fun hq => by
      unfold conB
      rw [List.all_eq_false.2 ⟨i, List.mem_range.2 h1, by rw [hq]; simp⟩]
      rw [Bool.false_and]
    simp (disch := omega) only [cdec_pos, rq_pos, impl_isLiteral_eq, bind_s, Int.toNat_natCast]
    cases hl : isLit (c.1.getD i (0, 0)).2 with
    | false =>
      right
      rw [bad (by unfold termAt; rw [hl, Bool.false_and]), cnf]
    | true =>
      have hl' := isLit_iff.1 hl
      have hv1 : 1 ≤ vof (c.1.getD i (0, 0)).2 := by unfold vof; omega
      rw [cnt]
      rw [impl_variableOf_eq (by omega), bind_s]
      by_cases hv : vof (c.1.getD i (0, 0)).2 ≤ b
      · right
        rw [cdec_pos hv, bad ?_]
        unfold termAt
        by_cases h0 : i = 0
        · subst h0; rw [if_pos rfl] at hb; omega
        · rw [if_neg h0] at hb
          rw [show (i == 0) = false by simpa using h0, decide_eq_false (show ¬ vof (c.1.getD (i - 1) (0, 0)).2 < vof (c.1.getD i (0, 0)).2 by omega)]
          simp
      · rw [cdec_neg hv, impl_within_eq]
        rw [bind_s]
        cases hw : (decide (1 ≤ (c.1.getD i (0, 0)).1) && decide ((c.1.getD i (0, 0)).1 ≤ 1000)) with
        | false =>
          right
          rw [bad (by unfold termAt; rw [hw]; simp), cnf]
        | true =>
          left
          rw [cnt, bind_s, rq_i64 (by omega) (by omega)]
          refine ⟨_, rfl, ⟨i + 1, by simp, by omega, by simp, fun j hj => ?_⟩, by dsimp only; omega, trivial⟩
          rcases Nat.lt_or_ge j i with h2 | h2
          · exact hpre j h2
          · have : j = i := by omega
            subst this
            unfold termAt
            rw [hl, hw]
            by_cases h0 : j = 0
            · rw [show (j == 0) = true by simpa using h0]; simp
            · rw [if_neg h0] at hb
              rw [decide_eq_true (show vof (c.1.getD (j - 1) (0, 0)).2 < vof (c.1.getD j (0, 0)).2 by omega)]
              simp
  · right
    have : i = c.1.length := by omega
    subst this
    dsimp only
    rw [cdec_neg (by omega), impl_within_eq, bind_s]
    unfold conB
    rw [List.all_eq_true.2 (fun j hj => hpre j (List.mem_range.1 hj)), Bool.true_and]

/-- A valid problem. -/
def probB (l : List (List (Int × Int) × Int)) : Bool := l.all conB && decide (l.length ≤ 400)

theorem spec_ProblemValid_eq (l : List (List (Int × Int) × Int)) (h : smallC l) : spec_ProblemValid l = some (probB l) := by
  have h1 := h.1
  unfold spec_ProblemValid probB
  rw [loop_all l.length (fun i => conB (l.getD i ([], 0))) false (decide (l.length ≤ 400)), all_range l conB ([], 0)]
  · cases l.all conB <;> rfl
  · intro i hi _
    have h2 := h.2 _ (getD_mem (d := ([], 0)) hi)
    unfold spec_ProblemValid_l1
    simp (disch := omega) only [cdec_pos, rq_pos, Int.toNat_natCast]
    rw [spec_ConstraintValid_eq _ (by omega)]
    simp (disch := omega) only [Option.bind_some, rq_i64]
    cases conB (l.getD i ([], 0)) <;> rfl
  · unfold spec_ProblemValid_l1
    simp (disch := omega) only [cdec_neg]
    rw [decide_eq_decide.2 (show ((l.length : Int) ≤ 400 ↔ l.length ≤ 400) by omega)]

theorem impl_ProblemValid_eq (l : List (List (Int × Int) × Int)) (h : smallC l) : impl_ProblemValid l = some (probB l) := by
  have h1 := h.1
  unfold impl_ProblemValid probB
  by_cases h4 : l.length ≤ 400
  · rw [cdec_pos (by omega), decide_eq_true h4]
    unfold impl_allValid slices_ContainsFunc_impl_Constraint__impl_allValid_1 slices_IndexFunc_impl_Constraint__impl_allValid_1
    obtain ⟨r, hr1, hr2⟩ := loop_find (f := slices_IndexFunc_impl_Constraint__impl_allValid_1_l1 l) l ([], 0) (fun x => !conB x) (fun i hi => by
      have h2 := h.2 _ (getD_mem (d := ([], 0)) hi)
      unfold slices_IndexFunc_impl_Constraint__impl_allValid_1_l1 impl_allValid_1
      simp (disch := omega) only [cdec_pos, rq_pos, Int.toNat_natCast]
      rw [impl_ConstraintValid_eq _ (by omega)]
      simp (disch := omega) only [Option.bind_some, rq_i64]
      cases conB (l.getD i ([], 0)) <;> rfl) (by
      unfold slices_IndexFunc_impl_Constraint__impl_allValid_1_l1
      simp (disch := omega) only [cdec_neg])
    rw [hr1]
    simp only [Option.bind_some, hr2]
    rw [List.any_eq_not_all_not]
    simp
  · rw [cdec_neg (by omega), decide_eq_false h4]
    simp

/-! ### Violations -/

/-- What a constraint's terms come to. -/
def sumB (v : List Bool) (c : List (Int × Int)) : Int := c.foldl (fun a t => bif litB v t.2 then a + t.1 else a) 0
def evalB (v : List Bool) (c : List (Int × Int) × Int) : Bool := decide (c.2 ≤ sumB v c.1)

theorem conB_terms {c : List (Int × Int) × Int} (h : conB c = true) : ∀ i, i < c.1.length → ((c.1.getD i (0, 0)).2 ≠ 0 ∧ -12 ≤ (c.1.getD i (0, 0)).2 ∧ (c.1.getD i (0, 0)).2 ≤ 12) ∧ 1 ≤ (c.1.getD i (0, 0)).1 ∧ (c.1.getD i (0, 0)).1 ≤ 1000 := by
  intro i hi
  unfold conB at h
  simp only [Bool.and_eq_true, List.all_eq_true] at h
  have h1 := h.1 i (List.mem_range.2 hi)
  refine ⟨isLit_iff.1 (termAt_lit h1), ?_⟩
  unfold termAt at h1
  simp only [Bool.and_eq_true, decide_eq_true_eq] at h1
  exact h1.2.1

theorem spec_l1Eval_eq {c : List (Int × Int) × Int} {v : List Bool} (h : c.1.length ≤ 1048576) (hc : conB c = true) (hv : v.length = 12) : spec_l1Eval c v = some (evalB v c) := by
  have ht := conB_terms hc
  unfold spec_l1Eval evalB sumB
  rw [← foldl_range c.1 (0, 0) (fun a t => bif litB v t.2 then a + t.1 else a)]
  refine (loop_foldr c.1.length (fun i a => 0 ≤ a ∧ a ≤ 1000 * (i : Int)) (fun i a => bif litB v (c.1.getD i (0, 0)).2 then a + (c.1.getD i (0, 0)).1 else a) (fun a => decide (c.2 ≤ a)) 0 ⟨by omega, by omega⟩ ?_ ?_).1
  · rintro i a hi ⟨ha0, ha1⟩
    obtain ⟨t1, t2, t3⟩ := ht i hi
    unfold spec_l1Eval_l1
    simp (disch := omega) only [cdec_pos, rq_pos, Int.toNat_natCast]
    rw [spec_l1True_eq t1 hv]
    cases litB v (c.1.getD i (0, 0)).2 with
    | true =>
      simp (disch := omega) only [Option.bind_some, rq_i64, cond_true]
      refine ⟨trivial, ?_⟩
      constructor <;> omega
    | false =>
      simp (disch := omega) only [Option.bind_some, rq_i64, cond_false]
      refine ⟨trivial, ?_⟩
      constructor <;> omega
  · intro a _
    unfold spec_l1Eval_l1
    simp (disch := omega) only [cdec_neg]

theorem impl_Constraint_holds_eq {c : List (Int × Int) × Int} {v : List Bool} (h : c.1.length ≤ 1048576) (hc : conB c = true) (hv : v.length = 12) : impl_Constraint_holds c v = some (evalB v c) := by
  have ht := conB_terms hc
  unfold impl_Constraint_holds evalB sumB
  rw [← foldl_range c.1 (0, 0) (fun a t => bif litB v t.2 then a + t.1 else a)]
  refine (loop_foldr c.1.length (fun i a => 0 ≤ a ∧ a ≤ 1000 * (i : Int)) (fun i a => bif litB v (c.1.getD i (0, 0)).2 then a + (c.1.getD i (0, 0)).1 else a) (fun a => decide (c.2 ≤ a)) 0 ⟨by omega, by omega⟩ ?_ ?_).1
  · rintro i a hi ⟨ha0, ha1⟩
    obtain ⟨t1, t2, t3⟩ := ht i hi
    unfold impl_Constraint_holds_l1
    simp (disch := omega) only [cdec_pos, rq_pos, Int.toNat_natCast]
    rw [impl_holds_eq t1 hv]
    cases litB v (c.1.getD i (0, 0)).2 with
    | true =>
      simp (disch := omega) only [Option.bind_some, rq_i64, cond_true]
      refine ⟨trivial, ?_⟩
      constructor <;> omega
    | false =>
      simp (disch := omega) only [Option.bind_some, rq_i64, cond_false]
      refine ⟨trivial, ?_⟩
      constructor <;> omega
  · intro a _
    unfold impl_Constraint_holds_l1
    simp (disch := omega) only [cdec_neg]

/-- How many constraints fail. -/
def badB (v : List Bool) (l : List (List (Int × Int) × Int)) : Int := l.foldl (fun a c => bif evalB v c then a else a + 1) 0

theorem probB_all {l : List (List (Int × Int) × Int)} (h : probB l = true) : ∀ x ∈ l, conB x = true := by
  unfold probB at h
  simp only [Bool.and_eq_true, List.all_eq_true] at h
  exact h.1

def violB (l : List (List (Int × Int) × Int)) (v : List Bool) : Int × Bool := bif probB l && decide (v.length = 12) then (badB v l, true) else (0, false)

end Go.AE.Y
