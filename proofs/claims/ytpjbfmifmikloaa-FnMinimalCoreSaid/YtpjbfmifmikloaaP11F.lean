/-
  Plain laws: flips are greedy; FlipBest against its reference.
-/
import Derived.Test.YtpjbfmifmikloaaP11V
import Derived.Test.YtpjbfmifmikloaaP12C
namespace Go.AE.Y
open Go Go.AE

def flipAt (v : List Bool) (i : Nat) : List Bool := v.set i (!(v.getD i false))
theorem flipAt_len (v : List Bool) (i : Nat) : (flipAt v i).length = v.length := by unfold flipAt; simp
def flipS (l : List (List (Int × Int) × Int)) (v : List Bool) (s : Int × List Bool) (i : Nat) : Int × List Bool :=
  if s.2 = [] ∨ badB (flipAt v i) l < s.1 then (badB (flipAt v i) l, flipAt v i) else s
def flipF (l : List (List (Int × Int) × Int)) (v : List Bool) : Nat → Int × List Bool
  | 0 => (0, [])
  | n + 1 => flipS l v (flipF l v n) n

theorem flipF_spec {l : List (List (Int × Int) × Int)} {v : List Bool} (hv : v.length = 12) : ∀ n, 1 ≤ n → ∃ k, k < n ∧ flipF l v n = (badB (flipAt v k) l, flipAt v k) ∧ ∀ j, j < n → badB (flipAt v k) l ≤ badB (flipAt v j) l := by
  intro n
  induction n with
  | zero => intro h; omega
  | succ n ih =>
    intro _
    rcases Nat.eq_zero_or_pos n with h0 | h0
    · subst h0
      refine ⟨0, by omega, by simp [flipF, flipS], fun j hj => ?_⟩
      rw [show j = 0 by omega]; exact Int.le_refl _
    · obtain ⟨k, h1, h2, h3⟩ := ih h0
      have hne : flipAt v k ≠ [] := fun e => by have := flipAt_len v k; rw [e, hv] at this; cases this
      unfold flipF flipS
      rw [h2]
      dsimp only
      by_cases hb : badB (flipAt v n) l < badB (flipAt v k) l
      · rw [if_pos (.inr hb)]
        refine ⟨n, by omega, rfl, fun j hj => ?_⟩
        rcases Nat.lt_or_ge j n with h4 | h4
        · have := h3 j h4; omega
        · rw [show j = n by omega]; exact Int.le_refl _
      · rw [if_neg (by rintro (h | h); exact hne h; exact hb h)]
        refine ⟨k, by omega, rfl, fun j hj => ?_⟩
        rcases Nat.lt_or_ge j n with h4 | h4
        · exact h3 j h4
        · rw [show j = n by omega]; omega

def flipB (l : List (List (Int × Int) × Int)) (v : List Bool) : Int × Bool × List Bool := bif probB l && decide (v.length = 12) then ((flipF l v 12).1, true, (flipF l v 12).2) else (0, false, [])

theorem set_flip {v : List Bool} (i : Nat) : v.set i (!(v.getD i false)) = flipAt v i := rfl

theorem flip_ne {v : List Bool} {k i : Nat} (hv : v.length = 12) (hk : k < 12) (hi : i < 12) : ((flipAt v k).getD i false != v.getD i false) = decide (i = k) := by
  unfold flipAt
  by_cases h : k = i
  · subst h
    rw [getD_set_eq' (by omega), decide_eq_true rfl]
    cases v.getD k false <;> rfl
  · rw [getD_set_ne' h, decide_eq_false (fun e => h e.symm)]
    simp

end Go.AE.Y
