/-
  Plain laws of the draws of problems.
-/
import Derived.Test.YtpjbfmifmikloaaP12D
import Derived.Test.YtpjbfmifmikloaaPX
namespace Go.AE.Y
open Go Go.AE

/-- The reader has gone on by at most c. -/
def Adv (r r' : List Int × Int) (c : Int) : Prop := r'.1 = r.1 ∧ r.2 ≤ r'.2 ∧ r'.2 ≤ r.2 + c

theorem Adv.ok {r r' : List Int × Int} {m m' c : Int} (h : RdOk r m) (a : Adv r r' c) (hm : m + c ≤ m') : RdOk r' m' := by
  obtain ⟨a1, a2, a3⟩ := a
  have := h.low
  have := h.high
  exact ⟨by rw [a1]; exact h.byte, by rw [a1]; exact h.len, by omega, by omega⟩
theorem Adv.refl (r : List Int × Int) {c : Int} (h : 0 ≤ c) : Adv r r c := ⟨rfl, Int.le_refl _, by omega⟩
theorem Adv.trans {r r' r'' : List Int × Int} {c c' d : Int} (a : Adv r r' c) (b : Adv r' r'' c') (h : c + c' ≤ d) : Adv r r'' d := by
  obtain ⟨a1, a2, a3⟩ := a
  obtain ⟨b1, b2, b3⟩ := b
  exact ⟨b1.trans a1, by omega, by omega⟩

end Go.AE.Y
