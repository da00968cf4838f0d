/-
  Plain laws of cubes: what the models of isCube, l12Cube, CubeHolds give.
-/
import Derived.Test.YtpjbfmifmikloaaPBase
import Derived.Test.YtpjbfmifmikloaaR3M
namespace Go.AE.Y
open Go Go.AE

/-- A literal. -/
def isLit (n : Int) : Bool := n != 0 && (decide (-12 ≤ n) && decide (n ≤ 12))

theorem isLit_iff {n : Int} : isLit n = true ↔ n ≠ 0 ∧ -12 ≤ n ∧ n ≤ 12 := by simp [isLit]
theorem isLit_neg {n : Int} : isLit (0 - n) = isLit n := by
  rw [Bool.eq_iff_iff, isLit_iff, isLit_iff]; omega

/-- The variable of a literal. -/
def vof (n : Int) : Int := max n (-n)

/-- A cube: literals with ascending variables. -/
def cubeAt (c : List Int) (i : Nat) : Bool := isLit (c.getD i 0) && (i == 0 || decide (vof (c.getD (i - 1) 0) < vof (c.getD i 0)))
def cubeB (c : List Int) : Bool := (List.range c.length).all (cubeAt c) && decide (c.length ≤ 4)

theorem cubeAt_lit {c : List Int} {i : Nat} (h : cubeAt c i = true) : isLit (c.getD i 0) = true := by
  unfold cubeAt at h; simp only [Bool.and_eq_true] at h; exact h.1

theorem getD_mem {α : Type} {l : List α} {i : Nat} {d : α} (h : i < l.length) : l.getD i d ∈ l := by
  rw [List.getD_eq_getElem?_getD, List.getElem?_eq_getElem h]; exact List.getElem_mem h

end Go.AE.Y
namespace Go.AE.Y
open Go Go.AE

/-- A literal's truth. -/
def litB (v : List Bool) (l : Int) : Bool := v.getD (vof l - 1).toNat false == decide (0 < l)
def cubeHoldsB (c : List Int) (v : List Bool) : Bool := cubeB c && (decide (v.length = 12) && c.all (litB v))

theorem cubeB_lits {c : List Int} (h : cubeB c = true) : ∀ x ∈ c, x ≠ 0 ∧ -12 ≤ x ∧ x ≤ 12 := by
  intro x hx
  unfold cubeB at h
  simp only [Bool.and_eq_true, List.all_eq_true] at h
  obtain ⟨i, hi, rfl⟩ := List.mem_iff_getElem.1 hx
  have := isLit_iff.1 (cubeAt_lit (h.1 i (List.mem_range.2 hi)))
  simpa [List.getD_eq_getElem?_getD, hi] using this

end Go.AE.Y
