/-
  Plain laws: cubes that part a problem.
-/
import Derived.Test.YtpjbfmifmikloaaP12C
namespace Go.AE.Y
open Go Go.AE

theorem set_getD {α : Type} (l : List α) (i : Nat) (d : α) : l.set i (l.getD i d) = l := by
  apply List.ext_getElem?
  intro j
  rw [List.getElem?_set]
  by_cases h : i = j
  · subst h
    by_cases h2 : i < l.length
    · simp [h2, List.getD_eq_getElem?_getD]
    · simp [h2]
  · simp [h]

theorem Clone_int_eq (a : List Int) (h : a.length ≤ 4000000000) : slices_Clone_int a = some a := by
  unfold slices_Clone_int
  refine nt_pos (fun hp => by rw [hp]) ?_
  rw [rq_pos (by simp [bound]; omega), List.nil_append]

/-- Each cube with the variable, and with its negation. -/
def stepB (v : Int) (out : List (List Int)) : List (List Int) := out.flatMap (fun c => [c ++ [v], c ++ [0 - v]])
def cubesB (vars : List Int) : List (List Int) := vars.foldl (fun out v => stepB v out) [[]]

theorem stepB_length (v : Int) (out : List (List Int)) : (stepB v out).length = 2 * out.length := by
  unfold stepB
  induction out with
  | nil => rfl
  | cons c r ih => rw [List.flatMap_cons, List.length_append, ih]; simp; omega

theorem stepB_append (v : Int) (a b : List (List Int)) : stepB v (a ++ b) = stepB v a ++ stepB v b := by simp [stepB]

theorem stepB_rows {v : Int} {out : List (List Int)} {n : Nat} (h : ∀ c ∈ out, c.length = n) : ∀ c ∈ stepB v out, c.length = n + 1 := by
  intro c hc
  obtain ⟨c0, h0, h1⟩ := List.mem_flatMap.1 hc
  have := h c0 h0
  simp only [List.mem_cons, List.not_mem_nil, or_false] at h1
  rcases h1 with rfl | rfl <;> simp [this]

theorem cubesB_snoc (l : List Int) (v : Int) : cubesB (l ++ [v]) = stepB v (cubesB l) := by simp [cubesB]

theorem cubesB_length : ∀ (n : Nat) (l : List Int), l.length = n → (cubesB l).length = 2 ^ n ∧ ∀ c ∈ cubesB l, c.length = n := by
  intro n
  induction n with
  | zero =>
    intro l hl
    obtain rfl := List.eq_nil_of_length_eq_zero hl
    exact ⟨rfl, fun c hc => by simp [cubesB] at hc; rw [hc]; rfl⟩
  | succ n ih =>
    intro l hl
    obtain ⟨l', v, rfl⟩ : ∃ l' v, l = l' ++ [v] := ⟨l.dropLast, l.getLast (by intro h; rw [h] at hl; simp at hl), (List.dropLast_concat_getLast _).symm⟩
    have hl' : l'.length = n := by simp at hl; exact hl
    obtain ⟨h1, h2⟩ := ih l' hl'
    rw [cubesB_snoc]
    exact ⟨by rw [stepB_length, h1, Nat.pow_succ]; omega, stepB_rows h2⟩

theorem take_snoc {α : Type} {l : List α} {i : Nat} (d : α) (h : i < l.length) : l.take (i + 1) = l.take i ++ [l.getD i d] := by
  rw [List.take_succ_eq_append_getElem h, List.getD_eq_getElem?_getD, List.getElem?_eq_getElem h]; rfl

/-- The bounds of what comes up on the way. -/
def okRows (out : List (List Int)) : Prop := out.length ≤ 16 ∧ ∀ c ∈ out, c.length ≤ 4

theorem cubesB_ok {l : List Int} (h : l.length ≤ 4) : okRows (cubesB l) := by
  obtain ⟨h1, h2⟩ := cubesB_length _ l rfl
  refine ⟨?_, fun c hc => by rw [h2 c hc]; exact h⟩
  rw [h1]
  exact Nat.le_trans (Nat.pow_le_pow_right (by omega) h) (by omega)

/-- Variables: ascending, one to twelve. -/
def varAt (c : List Int) (i : Nat) : Bool := (decide (1 ≤ c.getD i 0) && decide (c.getD i 0 ≤ 12)) && (i == 0 || decide (c.getD (i - 1) 0 < c.getD i 0))
def varsB (c : List Int) : Bool := (List.range c.length).all (varAt c) && decide (c.length ≤ 4)

theorem varsB_spec {c : List Int} (h : varsB c = true) : c.length ≤ 4 ∧ ∀ i, i < c.length → 1 ≤ c.getD i 0 ∧ c.getD i 0 ≤ 12 := by
  unfold varsB at h
  simp only [Bool.and_eq_true, decide_eq_true_eq, List.all_eq_true] at h
  refine ⟨h.2, fun i hi => ?_⟩
  have := h.1 i (List.mem_range.2 hi)
  unfold varAt at this
  simp only [Bool.and_eq_true, decide_eq_true_eq] at this
  exact this.1

def splitB (c : List Int) : Bool × List (List Int) := bif varsB c then (true, cubesB c) else (false, [])

theorem splitB_ok (c : List Int) : okRows (splitB c).2 := by
  unfold splitB
  cases hv : varsB c with
  | false => exact ⟨by simp, fun x hx => by simp at hx⟩
  | true => exact cubesB_ok (varsB_spec hv).1

end Go.AE.Y
