/-
  Plain laws: sizes, copies and comparisons of models; permutations of cells.
-/
import Derived.Test.YtpjbfmifmikloaaP6
namespace Go.AE.Y
open Go Go.AE

@[reducible] def tyRule : Ty := .pair (.int .i64) (.pair (.sl (.int .i64)) (.pair (.sl (.int .i64)) (.pair (.int .i64) (.sl (.sl (.int .i64))))))
@[reducible] def tyModel : Ty := .pair (.sl (.int .i64)) (.sl tyRule)

/-! ### Permutations -/

def sizeAt (m : ModT) (p : List Int) (i : Nat) : Bool := m.1.getD (p.getD i 0).toNat 0 == m.1.getD i 0
def permB (m : ModT) (p : List Int) : Bool := modB m && (decide (p.length = m.1.length) && (freshB p m.1.length && (List.range p.length).all (sizeAt m p)))

theorem modB_len {m : ModT} (h : modB m = true) : 1 ≤ m.1.length ∧ m.1.length ≤ 5 ∧ m.2.length ≤ 8 := by
  unfold modB at h
  simp only [Bool.and_eq_true, decide_eq_true_eq] at h
  exact ⟨h.1.1, h.1.2, h.2.1⟩

theorem freshB_in {l : List Int} {n : Int} (h : freshB l n = true) {i : Nat} (hi : i < l.length) : 0 ≤ l.getD i 0 ∧ l.getD i 0 < n := by
  unfold freshB at h
  have := List.all_eq_true.1 h i (List.mem_range.2 hi)
  unfold freshAt at this
  simp only [Bool.and_eq_true, decide_eq_true_eq] at this
  omega

end Go.AE.Y
