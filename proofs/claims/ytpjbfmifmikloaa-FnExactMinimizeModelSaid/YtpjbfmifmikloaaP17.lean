/-
  Plain laws of the source that data are drawn from.
-/
import Derived.Test.YtpjbfmifmikloaaPBase
import Derived.Test.YtpjbfmifmikloaaR3M
namespace Go.AE.Y
open Go Go.AE

/-- A reader with bytes, that has given at most m numbers. -/
structure RdOk (r : List Int × Int) (m : Int) : Prop where
  byte : ∀ x ∈ r.1, 0 ≤ x ∧ x ≤ 255
  len : r.1.length ≤ 2000
  low : 0 ≤ r.2
  high : r.2 ≤ m

theorem getD_byte {b : List Int} (h : ∀ x ∈ b, 0 ≤ x ∧ x ≤ 255) (i : Nat) : 0 ≤ b.getD i 0 ∧ b.getD i 0 ≤ 255 := by
  rcases Nat.lt_or_ge i b.length with hi | hi
  · rw [List.getD_eq_getElem?_getD, List.getElem?_eq_getElem hi]
    exact h _ (List.getElem_mem hi)
  · rw [List.getD_eq_getElem?_getD, List.getElem?_eq_none hi]
    decide

theorem RdOk.next {r : List Int × Int} {m k : Int} (h : RdOk r m) (hk : r.2 ≤ k) {m' : Int} (hm : k ≤ m') : RdOk (r.1, k) m' := ⟨h.byte, h.len, by have := h.low; dsimp only; omega, hm⟩

end Go.AE.Y
