/-
  Plain laws of the draws of cubes; FnCubeHolds' model answers true.
-/
import Derived.Test.YtpjbfmifmikloaaP12
import Derived.Test.YtpjbfmifmikloaaP17
namespace Go.AE.Y
open Go Go.AE

/-- A short list of small numbers. -/
def small (n : Nat) (l : List Int) : Prop := l.length ≤ n ∧ ∀ x ∈ l, -13 ≤ x ∧ x ≤ 13

theorem small_set {n : Nat} {l : List Int} {i : Nat} {x : Int} (h : small n l) (hx : -13 ≤ x ∧ x ≤ 13) : small n (l.set i x) := by
  refine ⟨by rw [List.length_set]; exact h.1, fun y hy => ?_⟩
  rcases List.mem_or_eq_of_mem_set hy with hy | rfl
  · exact h.2 y hy
  · exact hx

end Go.AE.Y
