/-
  Plain laws: flips are greedy; FlipBest against its reference.
-/
import Derived.Test.YtmpjmcflooeigaaP11V
import Derived.Test.YtmpjmcflooeigaaP12C
namespace Go.AE.Y
open Go Go.AE

def flipAt (v : List Bool) (i : Nat) : List Bool := v.set i (!(v.getD i false))
theorem flipAt_len (v : List Bool) (i : Nat) : (flipAt v i).length = v.length := by unfold flipAt; simp
def flipS (l : List (List (Int × Int) × Int)) (v : List Bool) (s : Int × List Bool) (i : Nat) : Int × List Bool :=
  if s.2 = [] ∨ badB (flipAt v i) l < s.1 then (badB (flipAt v i) l, flipAt v i) else s
def flipF (l : List (List (Int × Int) × Int)) (v : List Bool) : Nat → Int × List Bool
  | 0 => (0, [])
  | n + 1 => flipS l v (flipF l v n) n

theorem flipF_spec {l : List (List (Int × Int) × Int)} {v : List Bool} (hv : v.length = 12) : ∀ n, 1 ≤ n → ∃ k, k < n ∧ flipF l v n = (badB (flipAt v k) l, flipAt v k) ∧ ∀ j, j < n → badB (flipAt v k) l ≤ badB (flipAt v j) l := by
  intro n
  induction n with
  | zero => intro h; omega
  | succ n ih =>
    intro _
    rcases Nat.eq_zero_or_pos n with h0 | h0
    · subst h0
      refine ⟨0, by omega, by simp [flipF, flipS], fun j hj => ?_⟩
      rw [show j = 0 by omega]; exact Int.le_refl _
    · obtain ⟨k, h1, h2, h3⟩ := ih h0
      have hne : flipAt v k ≠ [] := fun e => by have := flipAt_len v k; rw [e, hv] at this; cases this
      unfold flipF flipS
      rw [h2]
      dsimp only
      by_cases hb : badB (flipAt v n) l < badB (flipAt v k) l
      · rw [if_pos (.inr hb)]
        refine ⟨n, by omega, rfl, fun j hj => ?_⟩
        rcases Nat.lt_or_ge j n with h4 | h4
        · have := h3 j h4; omega
        · rw [show j = n by omega]; exact Int.le_refl _
      · rw [if_neg (by rintro (h | h); exact hne h; exact hb h)]
        refine ⟨k, by omega, rfl, fun j hj => ?_⟩
        rcases Nat.lt_or_ge j n with h4 | h4
        · exact h3 j h4
        · rw [show j = n by omega]; omega

theorem Clone_bool_eq (a : List Bool) (h : a.length ≤ 4000000000) : slices_Clone_bool a = some a := by
  unfold slices_Clone_bool
  refine nt_pos (fun e => by rw [e]) ?_
  rw [rq_pos (by simp [bound]; omega), List.nil_append]

def flipB (l : List (List (Int × Int) × Int)) (v : List Bool) : Int × Bool × List Bool := bif probB l && decide (v.length = 12) then ((flipF l v 12).1, true, (flipF l v 12).2) else (0, false, [])

theorem set_flip {v : List Bool} (i : Nat) : v.set i (!(v.getD i false)) = flipAt v i := rfl

theorem impl_FlipBest_eq {l : List (List (Int × Int) × Int)} {v : List Bool} (h : smallC l) : impl_FlipBest l v = some (flipB l v) := by
  unfold impl_FlipBest flipB
  rw [impl_ProblemValid_eq l h, bind_s]
  cases hp : probB l with
  | false => rw [cnf, Bool.false_and, cff]
  | true =>
    rw [cnt, Bool.true_and]
    by_cases hv : v.length = 12
    · rw [cbne_neg (by omega), decide_eq_true hv, ctt]
      refine loop_fn (fun s : Int × Int × List Bool => ∃ i : Nat, s.2.1 = i ∧ i ≤ 12 ∧ (s.1, s.2.2) = flipF l v i) (fun s => 12 - s.2.1.toNat) (fun _ => ((flipF l v 12).1, true, (flipF l v 12).2)) ?_ _ ⟨0, rfl, by omega, rfl⟩
      rintro ⟨least, s, best⟩ ⟨i, rfl, hi, hs⟩
      dsimp only at hs ⊢
      unfold impl_FlipBest_l1
      dsimp only
      rcases Nat.lt_or_ge i 12 with h1 | h1
      · left
        rw [cdec_pos (by omega), Clone_bool_eq _ (by omega), bind_s, rq_pos ⟨by omega, by omega⟩, rq_pos ⟨by omega, by omega⟩, Int.toNat_natCast, set_flip,
          impl_violations_eq h (probB_all hp) (by rw [flipAt_len, hv]), bind_s]
        have hn : flipF l v (i + 1) = flipS l v (least, best) i := by rw [hs]; rfl
        have hne : flipAt v i ≠ [] := fun e => by have := flipAt_len v i; rw [e, hv] at this; cases this
        unfold flipS at hn
        dsimp only at hn
        cases best with
        | nil =>
          rw [if_pos (.inl rfl)] at hn
          rw [show List.isEmpty ([] : List Bool) = true from rfl, ctt, rq_i64 (by omega) (by omega), rq_pos hne]
          exact ⟨_, rfl, ⟨i + 1, by simp, by omega, by rw [hn]⟩, by dsimp only; omega, rfl⟩
        | cons b bs =>
          rw [show List.isEmpty (b :: bs) = false from rfl, cff]
          by_cases hb : badB (flipAt v i) l < least
          · rw [if_pos (.inr hb)] at hn
            rw [cdec_pos hb, rq_i64 (by omega) (by omega), rq_pos hne]
            exact ⟨_, rfl, ⟨i + 1, by simp, by omega, by rw [hn]⟩, by dsimp only; omega, rfl⟩
          · rw [if_neg (by rintro (h | h); exact absurd h (by simp); exact hb h)] at hn
            rw [cdec_neg hb, rq_i64 (by omega) (by omega)]
            exact ⟨_, rfl, ⟨i + 1, by simp, by omega, by rw [hn]⟩, by dsimp only; omega, rfl⟩
      · right
        have : i = 12 := by omega
        subst this
        rw [cdec_neg (by omega)]
        unfold impl_FlipBest_j1
        rw [← hs]
        rfl
    · rw [cbne_pos (by omega), decide_eq_false hv, cff]

theorem spec_FlipBest_eq {l : List (List (Int × Int) × Int)} {v : List Bool} (h : smallC l) : spec_FlipBest l v = some (flipB l v) := by
  unfold spec_FlipBest flipB
  rw [spec_ProblemValid_eq l h, bind_s]
  cases hp : probB l with
  | false => rw [cnf, Bool.false_and, cff]
  | true =>
    rw [cnt, Bool.true_and]
    by_cases hv : v.length = 12
    · rw [cbne_neg (by omega), decide_eq_true hv, ctt]
      refine loop_fn (fun s : Int × Int × List Bool => ∃ i : Nat, s.2.1 = i ∧ i ≤ 12 ∧ (i = 0 → s.1 = -1 ∧ s.2.2 = []) ∧ (1 ≤ i → (s.1, s.2.2) = flipF l v i)) (fun s => 12 - s.2.1.toNat) (fun _ => ((flipF l v 12).1, true, (flipF l v 12).2)) ?_ _ ⟨0, rfl, by omega, fun _ => ⟨rfl, rfl⟩, fun h => by omega⟩
      rintro ⟨least, s, best⟩ ⟨i, rfl, hi, hs0, hs⟩
      dsimp only at hs0 hs ⊢
      unfold spec_FlipBest_l1
      dsimp only
      rcases Nat.lt_or_ge i 12 with h1 | h1
      · left
        have hne : flipAt v i ≠ [] := fun e => by have := flipAt_len v i; rw [e, hv] at this; cases this
        rw [cdec_pos (by omega), List.nil_append, rq_pos (by simp [bound]; omega), rq_pos ⟨by omega, by omega⟩, rq_pos ⟨by omega, by omega⟩, Int.toNat_natCast, set_flip,
          spec_l11Bad_eq h (probB_all hp) (by rw [flipAt_len, hv]), bind_s]
        rcases Nat.eq_zero_or_pos i with h0 | h0
        · subst h0
          obtain ⟨rfl, rfl⟩ := hs0 rfl
          rw [cdec_pos (by omega), rq_i64 (by omega) (by omega)]
          exact ⟨_, rfl, ⟨1, by simp, by omega, fun h => by omega, fun _ => by simp [flipF, flipS]⟩, by dsimp only; omega, rfl⟩
        · have hs := hs h0
          obtain ⟨k, k1, k2, k3⟩ := flipF_spec (l := l) hv i h0
          have hk : least = badB (flipAt v k) l ∧ best = flipAt v k := by rw [k2] at hs; simpa using hs
          have hkn : flipAt v k ≠ [] := fun e => by have := flipAt_len v k; rw [e, hv] at this; cases this
          have hb0 := badB_bound (v := flipAt v k) l
          have hn : flipF l v (i + 1) = flipS l v (least, best) i := by rw [hs]; rfl
          unfold flipS at hn
          dsimp only at hn
          rw [cdec_neg (by omega)]
          by_cases hb : badB (flipAt v i) l < least
          · rw [if_pos (.inr hb)] at hn
            rw [cdec_pos hb, rq_i64 (by omega) (by omega)]
            exact ⟨_, rfl, ⟨i + 1, by simp, by omega, fun h => by omega, fun _ => by rw [hn]⟩, by dsimp only; omega, rfl⟩
          · rw [if_neg (by rintro (h | h); exact hkn (hk.2 ▸ h); exact hb h)] at hn
            rw [cdec_neg hb, rq_i64 (by omega) (by omega)]
            exact ⟨_, rfl, ⟨i + 1, by simp, by omega, fun h => by omega, fun _ => by rw [hn]⟩, by dsimp only; omega, rfl⟩
      · right
        have : i = 12 := by omega
        subst this
        rw [cdec_neg (by omega)]
        unfold spec_FlipBest_j1
        rw [← hs (by omega)]
        rfl
    · rw [cbne_pos (by omega), decide_eq_false hv, cff]

theorem flip_ne {v : List Bool} {k i : Nat} (hv : v.length = 12) (hk : k < 12) (hi : i < 12) : ((flipAt v k).getD i false != v.getD i false) = decide (i = k) := by
  unfold flipAt
  by_cases h : k = i
  · subst h
    rw [getD_set_eq' (by omega), decide_eq_true rfl]
    cases v.getD k false <;> rfl
  · rw [getD_set_ne' h, decide_eq_false (fun e => h e.symm)]
    simp

end Go.AE.Y
