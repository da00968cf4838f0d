/-
  Plain laws of the draws of problems.
-/
import Derived.Test.YtpjbfmifmikloaaP12D
import Derived.Test.YtpjbfmifmikloaaPX
namespace Go.AE.Y
open Go Go.AE

/-- The reader has gone on by at most c. -/
def Adv (r r' : List Int × Int) (c : Int) : Prop := r'.1 = r.1 ∧ r.2 ≤ r'.2 ∧ r'.2 ≤ r.2 + c

theorem Adv.ok {r r' : List Int × Int} {m m' c : Int} (h : RdOk r m) (a : Adv r r' c) (hm : m + c ≤ m') : RdOk r' m' := by
  obtain ⟨a1, a2, a3⟩ := a
  have := h.low
  have := h.high
  exact ⟨by rw [a1]; exact h.byte, by rw [a1]; exact h.len, by omega, by omega⟩
theorem Adv.refl (r : List Int × Int) {c : Int} (h : 0 ≤ c) : Adv r r c := ⟨rfl, Int.le_refl _, by omega⟩
theorem Adv.trans {r r' r'' : List Int × Int} {c c' d : Int} (a : Adv r r' c) (b : Adv r' r'' c') (h : c + c' ≤ d) : Adv r r'' d := by
  obtain ⟨a1, a2, a3⟩ := a
  obtain ⟨b1, b2, b3⟩ := b
  exact ⟨b1.trans a1, by omega, by omega⟩

theorem pick_adv {r : List Int × Int} (n : Int) (h : RdOk r 1000000000) : ∃ x r', spec_l17Rd_pick n r = some (x, r') ∧ Adv r r' 1 ∧ 0 ≤ x ∧ (1 ≤ n → x < n) := by
  obtain ⟨x, h1, h2, h3, _⟩ := pick_ok (n := n) h
  exact ⟨x, _, h1, ⟨rfl, by (try dsimp only) <;> omega, by (try dsimp only) <;> omega⟩, h2, h3⟩
theorem num_adv {l : List Int} {r : List Int × Int} (h : RdOk r 1000000000) (hl : 1 ≤ l.length) : ∃ x r', spec_l17Rd_num l r = some (x, r') ∧ Adv r r' 1 ∧ x ∈ l := by
  obtain ⟨x, h1, h2⟩ := num_ok h hl
  exact ⟨x, _, h1, ⟨rfl, by (try dsimp only) <;> omega, by (try dsimp only) <;> omega⟩, h2⟩

end Go.AE.Y
