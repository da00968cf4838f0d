/-
  Plain laws of cubes: what the models of isCube, l12Cube, CubeHolds give.
-/
import Derived.Test.YtmpjmcflooeigaaPBase
import Derived.Test.YtmpjmcflooeigaaR2M
namespace Go.AE.Y
open Go Go.AE

/-- A literal. -/
def isLit (n : Int) : Bool := n != 0 && (decide (-12 ≤ n) && decide (n ≤ 12))

theorem isLit_iff {n : Int} : isLit n = true ↔ n ≠ 0 ∧ -12 ≤ n ∧ n ≤ 12 := by simp [isLit]
theorem isLit_neg {n : Int} : isLit (0 - n) = isLit n := by
  rw [Bool.eq_iff_iff, isLit_iff, isLit_iff]; omega

theorem impl_isLiteral_eq (n : Int) : impl_isLiteral n = some (isLit n) := by
  unfold impl_isLiteral impl_within isLit
  cases (n != 0) <;> cases (decide (-12 ≤ n)) <;> rfl

theorem spec_l1Lit_eq (n : Int) : spec_l1Lit n = some (isLit n) := by
  unfold spec_l1Lit isLit
  cases (n != 0) <;> cases (decide (-12 ≤ n)) <;> rfl

/-- The variable of a literal. -/
def vof (n : Int) : Int := max n (-n)

theorem impl_variableOf_eq {n : Int} (h : -13 ≤ n ∧ n ≤ 13) : impl_variableOf n = some (vof n) := by
  unfold impl_variableOf vof
  simp (disch := omega) only [rq_i64, Int.zero_sub]

theorem spec_l1Abs_eq {n : Int} (h : -13 ≤ n ∧ n ≤ 13) : spec_l1Abs n = some (vof n) := by
  unfold spec_l1Abs vof
  by_cases h1 : n < 0
  · simp (disch := omega) only [cdec_pos, rq_i64]
    congr 1; omega
  · simp (disch := omega) only [cdec_neg]
    congr 1; omega

/-- A cube: literals with ascending variables. -/
def cubeAt (c : List Int) (i : Nat) : Bool := isLit (c.getD i 0) && (i == 0 || decide (vof (c.getD (i - 1) 0) < vof (c.getD i 0)))
def cubeB (c : List Int) : Bool := (List.range c.length).all (cubeAt c) && decide (c.length ≤ 4)

theorem cubeAt_lit {c : List Int} {i : Nat} (h : cubeAt c i = true) : isLit (c.getD i 0) = true := by
  unfold cubeAt at h; simp only [Bool.and_eq_true] at h; exact h.1

theorem impl_isCube_eq (c : List Int) (h : c.length ≤ 4000000000) : impl_isCube c = some (cubeB c) := by
  unfold impl_isCube cubeB
  rw [loop_all c.length (cubeAt c) false (decide (c.length ≤ 4))]
  · cases (List.range c.length).all (cubeAt c) <;> rfl
  · intro i hi hpre
    unfold impl_isCube_l1 cubeAt
    simp (disch := omega) only [cdec_pos, rq_pos, impl_isLiteral_eq, Option.bind_some, Int.toNat_natCast]
    cases hl : isLit (c.getD i 0) with
    | false => rfl
    | true =>
      have hl' := isLit_iff.1 hl
      by_cases h0 : i = 0
      · subst h0
        simp (disch := omega) only [cdec_neg, Bool.not_true, cond_false, rq_i64, Option.bind_some]
        rfl
      · have hp1 := isLit_iff.1 (cubeAt_lit (hpre (i - 1) (by omega)))
        have e1 : ((i : Int) - 1).toNat = i - 1 := by omega
        simp (disch := omega) only [cdec_pos, Bool.not_true, cond_false, rq_i64, rq_pos, Option.bind_some, e1, impl_variableOf_eq]
        rw [show (i == 0) = false by simpa using h0]
        by_cases hv : vof (c.getD (i - 1) 0) < vof (c.getD i 0)
        · simp (disch := omega) only [cdec_neg, decide_eq_true hv]
          rfl
        · simp (disch := omega) only [cdec_pos, decide_eq_false hv]
          rfl
  · unfold impl_isCube_l1
    simp (disch := omega) only [cdec_neg]
    rw [decide_eq_decide.2 (show ((c.length : Int) ≤ 4 ↔ c.length ≤ 4) by omega)]

theorem getD_mem {α : Type} {l : List α} {i : Nat} {d : α} (h : i < l.length) : l.getD i d ∈ l := by
  rw [List.getD_eq_getElem?_getD, List.getElem?_eq_getElem h]; exact List.getElem_mem h

theorem spec_l12Vars_eq (c : List Int) (h : c.length ≤ 4000000000) :
    spec_l12Vars c = some ((List.range c.length).all (fun i => (decide (1 ≤ c.getD i 0) && decide (c.getD i 0 ≤ 12)) && (i == 0 || decide (c.getD (i - 1) 0 < c.getD i 0))) && decide (c.length ≤ 4)) := by
  unfold spec_l12Vars
  rw [loop_all c.length (fun i => (decide (1 ≤ c.getD i 0) && decide (c.getD i 0 ≤ 12)) && (i == 0 || decide (c.getD (i - 1) 0 < c.getD i 0))) false (decide (c.length ≤ 4))]
  · cases (List.range c.length).all _ <;> rfl
  · intro i hi _
    unfold spec_l12Vars_l1
    simp (disch := omega) only [cdec_pos, rq_pos, Int.toNat_natCast]
    by_cases h1 : 1 ≤ c.getD i 0
    · by_cases h2 : c.getD i 0 ≤ 12
      · simp (disch := omega) only [cdec_neg, decide_eq_true h1, decide_eq_true h2]
        by_cases h0 : i = 0
        · subst h0
          simp (disch := omega) only [cdec_neg, rq_i64]
          rfl
        · have e1 : ((i : Int) - 1).toNat = i - 1 := by omega
          rw [show (i == 0) = false by simpa using h0]
          simp (disch := omega) only [cdec_pos, rq_i64, rq_pos, e1]
          by_cases hv : c.getD (i - 1) 0 < c.getD i 0
          · simp (disch := omega) only [cdec_neg, decide_eq_true hv]
            rfl
          · simp (disch := omega) only [cdec_pos, decide_eq_false hv]
            rfl
      · simp (disch := omega) only [cdec_neg, cdec_pos, decide_eq_true h1, decide_eq_false h2]
        rfl
    · simp (disch := omega) only [cdec_pos, decide_eq_false h1]
      rfl
  · unfold spec_l12Vars_l1
    simp (disch := omega) only [cdec_neg]
    rw [decide_eq_decide.2 (show ((c.length : Int) ≤ 4 ↔ c.length ≤ 4) by omega)]

end Go.AE.Y
namespace Go.AE.Y
open Go Go.AE

theorem spec_l12Cube_eq (c : List Int) (h : c.length ≤ 4000000000) : spec_l12Cube c = some (cubeB c) := by
  unfold spec_l12Cube
  refine loop_fn (fun s : Int × List Int => ∃ i : Nat, s.1 = i ∧ i ≤ c.length ∧ s.2 = (c.take i).map vof ∧ ∀ j, j < i → isLit (c.getD j 0) = true) (fun s => c.length - s.1.toNat) (fun _ => cubeB c) ?_ _ ⟨0, rfl, Nat.zero_le _, rfl, fun j hj => by omega⟩
  rintro ⟨s, vs⟩ ⟨i, rfl, hi, hv, hl⟩
  dsimp only at hv ⊢
  unfold spec_l12Cube_l1
  rcases Nat.lt_or_ge i c.length with h1 | h1
  · simp (disch := omega) only [cdec_pos, rq_pos, spec_l1Lit_eq, Option.bind_some, Int.toNat_natCast]
    cases hq : isLit (c.getD i 0) with
    | false =>
      right
      have : cubeB c = false := by
        unfold cubeB
        rw [List.all_eq_false.2 ⟨i, List.mem_range.2 h1, by unfold cubeAt; rw [hq]; simp⟩]
        rfl
      rw [this]; rfl
    | true =>
      left
      have hq' := isLit_iff.1 hq
      have hlen : vs.length = i := by rw [hv]; simp; omega
      simp (disch := omega) only [Bool.not_true, cond_false, spec_l1Abs_eq, Option.bind_some, rq_i64]
      rw [rq_pos (by rw [hlen]; simp [bound]; omega)]
      refine ⟨_, rfl, ⟨i + 1, by simp, by omega, ?_, ?_⟩, by dsimp only; omega, trivial⟩
      · dsimp only
        rw [hv, List.take_succ_eq_append_getElem h1, List.map_append]
        congr 2
        simp [List.getD_eq_getElem?_getD, h1]
      · intro j hj
        rcases Nat.lt_or_ge j i with h2 | h2
        · exact hl j h2
        · have : j = i := by omega
          subst this; exact hq
  · right
    have : i = c.length := by omega
    subst this
    rw [List.take_length] at hv
    subst hv
    simp (disch := omega) only [cdec_neg]
    unfold spec_l12Cube_j1
    rw [spec_l12Vars_eq _ (by simpa using h)]
    simp only [Option.bind_some, up, Option.map_some, List.length_map]
    congr 2
    unfold cubeB
    congr 1
    rw [Bool.eq_iff_iff, List.all_eq_true, List.all_eq_true]
    have key : ∀ j, j ∈ List.range c.length → (((decide (1 ≤ (c.map vof).getD j 0) && decide ((c.map vof).getD j 0 ≤ 12)) && (j == 0 || decide ((c.map vof).getD (j - 1) 0 < (c.map vof).getD j 0))) = cubeAt c j) := by
      intro j hj
      have hj := List.mem_range.1 hj
      have hq := hl j hj
      have hq' := isLit_iff.1 hq
      unfold cubeAt
      rw [getD_map c vof j 0 0 hj, getD_map c vof (j - 1) 0 0 (by omega), hq]
      have e1 : 1 ≤ vof (c.getD j 0) := by unfold vof; omega
      have e2 : vof (c.getD j 0) ≤ 12 := by unfold vof; omega
      rw [decide_eq_true e1, decide_eq_true e2]
      rfl
    exact ⟨fun q j hj => by rw [← key j hj]; exact q j hj, fun q j hj => by rw [key j hj]; exact q j hj⟩

/-- A literal's truth. -/
def litB (v : List Bool) (l : Int) : Bool := v.getD (vof l - 1).toNat false == decide (0 < l)
def cubeHoldsB (c : List Int) (v : List Bool) : Bool := cubeB c && (decide (v.length = 12) && c.all (litB v))

theorem cubeB_lits {c : List Int} (h : cubeB c = true) : ∀ x ∈ c, x ≠ 0 ∧ -12 ≤ x ∧ x ≤ 12 := by
  intro x hx
  unfold cubeB at h
  simp only [Bool.and_eq_true, List.all_eq_true] at h
  obtain ⟨i, hi, rfl⟩ := List.mem_iff_getElem.1 hx
  have := isLit_iff.1 (cubeAt_lit (h.1 i (List.mem_range.2 hi)))
  simpa [List.getD_eq_getElem?_getD, hi] using this

theorem impl_holds_eq {l : Int} {v : List Bool} (h : l ≠ 0 ∧ -12 ≤ l ∧ l ≤ 12) (hv : v.length = 12) : impl_holds l v = some (litB v l) := by
  have e1 : 1 ≤ vof l ∧ vof l ≤ 12 := by unfold vof; omega
  unfold impl_holds
  simp (disch := omega) only [impl_variableOf_eq, Option.bind_some, rq_i64, rq_pos]
  rfl

theorem impl_CubeHolds_eq (c : List Int) (v : List Bool) (h : c.length ≤ 4000000000) : impl_CubeHolds c v = some (cubeHoldsB c v) := by
  unfold impl_CubeHolds cubeHoldsB
  rw [impl_isCube_eq c h]
  simp only [Option.bind_some]
  cases hc : cubeB c with
  | false => rfl
  | true =>
    have hl := cubeB_lits hc
    by_cases hv : v.length = 12
    · simp (disch := omega) only [cond_true, cbeq_pos, decide_eq_true hv]
      unfold slices_ContainsFunc_int__impl_CubeHolds_1 slices_IndexFunc_int__impl_CubeHolds_1
      obtain ⟨r, h1, h2⟩ := loop_find (f := slices_IndexFunc_int__impl_CubeHolds_1_l1 c v) c 0 (fun x => !litB v x) (fun i hi => by
        unfold slices_IndexFunc_int__impl_CubeHolds_1_l1 impl_CubeHolds_1
        have := hl _ (getD_mem (d := 0) hi)
        simp (disch := omega) only [cdec_pos, rq_pos, Option.bind_some, Int.toNat_natCast]
        rw [impl_holds_eq this hv]
        simp (disch := omega) only [Option.bind_some, rq_i64]
        cases litB v (c.getD i 0) <;> rfl) (by
        unfold slices_IndexFunc_int__impl_CubeHolds_1_l1
        simp (disch := omega) only [cdec_neg])
      rw [h1]
      simp only [Option.bind_some, h2]
      congr 1
      rw [List.any_eq_not_all_not]
      simp
    · simp (disch := omega) only [cond_true, cbeq_neg, decide_eq_false hv]
      rfl

end Go.AE.Y
