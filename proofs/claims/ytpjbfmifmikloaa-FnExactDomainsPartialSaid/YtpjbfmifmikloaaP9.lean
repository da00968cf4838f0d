/-
  Plain laws: cells and objectives of models.
-/
import Derived.Test.YtpjbfmifmikloaaP6X
namespace Go.AE.Y
open Go Go.AE

def wtB (n : Int) : Bool := decide (-9 ≤ n) && decide (n ≤ 9)
def objB (m : ModT) (c : List Int) : Bool := decide (c.length = m.1.length) && c.all wtB
def cellAt (m : ModT) (x : List Int) (i : Nat) : Bool := decide (0 ≤ x.getD i 0) && decide (x.getD i 0 ≤ m.1.getD i 0)
def cellsB (m : ModT) (x : List Int) : Bool := decide (x.length = m.1.length) && (List.range x.length).all (cellAt m x)
def valZ (c x : List Int) (n : Nat) : Int := (List.range n).foldl (fun a i => a + c.getD i 0 * x.getD i 0) 0

theorem valZ_succ (c x : List Int) (n : Nat) : valZ c x (n + 1) = valZ c x n + c.getD n 0 * x.getD n 0 := by
  unfold valZ
  rw [List.range_succ, List.foldl_append]
  rfl

theorem mul_bound {c x : Int} (hc : -9 ≤ c ∧ c ≤ 9) (hx : 0 ≤ x ∧ x ≤ 3) : -27 ≤ c * x ∧ c * x ≤ 27 := by
  have : x = 0 ∨ x = 1 ∨ x = 2 ∨ x = 3 := by omega
  rcases this with rfl | rfl | rfl | rfl <;> omega

/-- What is known of valid cells and coefficients. -/
theorem term_bound {m : ModT} {c x : List Int} (hm : modB m = true) (hc : objB m c = true) (hx : cellsB m x = true) :
    x.length = m.1.length ∧ c.length = m.1.length ∧ m.1.length ≤ 5 ∧ ∀ i, i < x.length → -27 ≤ c.getD i 0 * x.getD i 0 ∧ c.getD i 0 * x.getD i 0 ≤ 27 := by
  obtain ⟨m1, m2, m3⟩ := modB_len hm
  unfold objB at hc
  unfold cellsB at hx
  unfold modB at hm
  simp only [Bool.and_eq_true, decide_eq_true_eq, List.all_eq_true] at hc hx hm
  refine ⟨hx.1, hc.1, m2, fun i hi => mul_bound ?_ ?_⟩
  · have := hc.2 _ (getD_mem (l := c) (i := i) (d := 0) (by omega))
    unfold wtB at this
    simpa using this
  · have h1 := hx.2 i (List.mem_range.2 hi)
    have h2 := hm.2.2.1 _ (getD_mem (l := m.1) (i := i) (d := 0) (by omega))
    unfold cellAt at h1
    unfold cellB at h2
    simp only [Bool.and_eq_true, decide_eq_true_eq] at h1 h2
    omega

theorem valZ_bound {c x : List Int} {n : Nat} (hn : n ≤ 5) (h : ∀ i, i < n → -27 ≤ c.getD i 0 * x.getD i 0 ∧ c.getD i 0 * x.getD i 0 ≤ 27) : -27 * (n : Int) ≤ valZ c x n ∧ valZ c x n ≤ 27 * n := by
  induction n with
  | zero => simp [valZ]
  | succ n ih =>
    have := ih (by omega) (fun i hi => h i (by omega))
    have := h n (by omega)
    rw [valZ_succ]
    omega

def objV (m : ModT) (c x : List Int) : Int × Bool := bif modB m && (objB m c && cellsB m x) then (valZ c x x.length, true) else (0, false)

end Go.AE.Y
