/-
  Plain laws: cubes are a partition.
-/
import Derived.Test.YtpjbfmifmikloaaP12S
import Derived.Test.YtpjbfmifmikloaaP12D
namespace Go.AE.Y
open Go Go.AE

theorem cpInts_self (a : List Int) (h : a.length ≤ 4000000000) : laws_cpInts a a = some true := by
  unfold laws_cpInts
  rw [cbne_neg rfl, loop_all a.length (fun _ => true) false true]
  · rw [List.all_eq_true.2 (fun _ _ => rfl)]; rfl
  · intro i hi _
    unfold laws_cpInts_l1
    simp (disch := omega) only [cdec_pos, rq_pos, rq_i64, Int.toNat_natCast, bne_self_eq_false, cff, ctt]
  · unfold laws_cpInts_l1
    simp (disch := omega) only [cdec_neg]

/-! ### Of the cubes, one holds -/

/-- What each cube is like. -/
def likeB (l c : List Int) : Prop := c.length = l.length ∧ ∀ i, i < l.length → vof (c.getD i 0) = l.getD i 0 ∧ isLit (c.getD i 0) = true

theorem getD_snoc {α : Type} (l : List α) (x d : α) (i : Nat) : (l ++ [x]).getD i d = if i < l.length then l.getD i d else if i = l.length then x else d := by
  simp only [List.getD_eq_getElem?_getD, List.getElem?_append]
  by_cases h : i < l.length
  · rw [if_pos h, if_pos h]
  · rw [if_neg h, if_neg h]
    by_cases h2 : i = l.length
    · subst h2; simp
    · rw [if_neg h2, List.getElem?_eq_none (by simp; omega)]; rfl

theorem cubesB_like : ∀ (n : Nat) (l : List Int), l.length = n → (∀ i, i < l.length → 1 ≤ l.getD i 0 ∧ l.getD i 0 ≤ 12) → ∀ c ∈ cubesB l, likeB l c := by
  intro n
  induction n with
  | zero =>
    intro l hl _ c hc
    obtain rfl := List.eq_nil_of_length_eq_zero hl
    simp [cubesB] at hc
    subst hc
    exact ⟨rfl, fun i hi => by simp at hi⟩
  | succ n ih =>
    intro l hl hx c hc
    obtain ⟨l', v, rfl⟩ : ∃ l' v, l = l' ++ [v] := ⟨l.dropLast, l.getLast (by intro h; rw [h] at hl; simp at hl), (List.dropLast_concat_getLast _).symm⟩
    have hl' : l'.length = n := by simp at hl; exact hl
    have hv : 1 ≤ v ∧ v ≤ 12 := by
      have := hx l'.length (by simp)
      rwa [getD_snoc, if_neg (by omega), if_pos rfl] at this
    have ih' := ih l' hl' (fun i hi => by
      have := hx i (by simp; omega)
      rwa [getD_snoc, if_pos hi] at this)
    rw [cubesB_snoc] at hc
    obtain ⟨c0, h0, h1⟩ := List.mem_flatMap.1 hc
    obtain ⟨q1, q2⟩ := ih' c0 h0
    have main : ∀ x, vof x = v → isLit x = true → likeB (l' ++ [v]) (c0 ++ [x]) := fun x e1 e2 => by
      refine ⟨by simp [q1], fun i hi => ?_⟩
      rw [getD_snoc, getD_snoc, q1]
      by_cases h : i < l'.length
      · rw [if_pos h, if_pos h]; exact q2 i h
      · have : i = l'.length := by simp at hi; omega
        rw [if_neg h, if_pos this, if_neg h, if_pos this]
        exact ⟨e1, e2⟩
    simp only [List.mem_cons, List.not_mem_nil, or_false] at h1
    rcases h1 with rfl | rfl
    · exact main v (by unfold vof; omega) (isLit_iff.2 (by omega))
    · exact main (0 - v) (by unfold vof; omega) (isLit_iff.2 (by omega))

theorem cubeB_of_like {l c : List Int} (hv : varsB l = true) (h : likeB l c) : cubeB c = true := by
  obtain ⟨h1, h2⟩ := h
  have hv' := hv
  unfold varsB at hv'
  simp only [Bool.and_eq_true, decide_eq_true_eq, List.all_eq_true] at hv'
  unfold cubeB
  rw [decide_eq_true (by omega), Bool.and_true, List.all_eq_true]
  intro i hi
  have hi := List.mem_range.1 hi
  obtain ⟨q1, q2⟩ := h2 i (by omega)
  have h3 := hv'.1 i (List.mem_range.2 (by omega))
  unfold varAt at h3
  unfold cubeAt
  rw [q2, Bool.true_and]
  by_cases h0 : i = 0
  · rw [show (i == 0) = true by simpa using h0, Bool.true_or]
  · rw [show (i == 0) = false by simpa using h0, Bool.false_or] at h3 ⊢
    simp only [Bool.and_eq_true, decide_eq_true_eq] at h3
    rw [q1, (h2 (i - 1) (by omega)).1]
    exact decide_eq_true h3.2

theorem litB_pos {v : List Bool} {x : Int} (h : 1 ≤ x) : litB v (0 - x) = !(litB v x) := by
  unfold litB
  rw [show vof (0 - x) = vof x by unfold vof; omega, decide_eq_true (show 0 < x by omega), decide_eq_false (show ¬ 0 < 0 - x by omega)]
  cases v.getD (vof x - 1).toNat false <;> rfl

theorem count_step {v : List Bool} {x : Int} (h : 1 ≤ x) (out : List (List Int)) : (stepB x out).countP (fun c => c.all (litB v)) = out.countP (fun c => c.all (litB v)) := by
  unfold stepB
  induction out with
  | nil => rfl
  | cons c r ih =>
    rw [List.flatMap_cons, List.countP_append, ih, show (c :: r).countP (fun c => c.all (litB v)) = r.countP (fun c => c.all (litB v)) + if c.all (litB v) = true then 1 else 0 from List.countP_cons]
    have e : List.countP (fun c => c.all (litB v)) [c ++ [x], c ++ [0 - x]] = if c.all (litB v) = true then 1 else 0 := by
      simp only [List.countP_cons, List.countP_nil, List.all_append, List.all_cons, List.all_nil, Bool.and_true, litB_pos h]
      cases c.all (litB v) <;> cases litB v x <;> rfl
    rw [e]
    omega

theorem count_one {v : List Bool} : ∀ (n : Nat) (l : List Int), l.length = n → (∀ i, i < l.length → 1 ≤ l.getD i 0) → (cubesB l).countP (fun c => c.all (litB v)) = 1 := by
  intro n
  induction n with
  | zero =>
    intro l hl _
    obtain rfl := List.eq_nil_of_length_eq_zero hl
    rfl
  | succ n ih =>
    intro l hl hx
    obtain ⟨l', x, rfl⟩ : ∃ l' v, l = l' ++ [v] := ⟨l.dropLast, l.getLast (by intro h; rw [h] at hl; simp at hl), (List.dropLast_concat_getLast _).symm⟩
    have hl' : l'.length = n := by simp at hl; exact hl
    have hv : 1 ≤ x := by
      have := hx l'.length (by simp)
      rwa [getD_snoc, if_neg (by omega), if_pos rfl] at this
    rw [cubesB_snoc, count_step hv]
    exact ih l' hl' (fun i hi => by
      have := hx i (by simp; omega)
      rwa [getD_snoc, if_pos hi] at this)

end Go.AE.Y
