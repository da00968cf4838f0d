/-
  Plain laws: objectives are linear.
-/
import Derived.Test.YtpjbfmifmikloaaP6D
import Derived.Test.YtpjbfmifmikloaaP9
namespace Go.AE.Y
open Go Go.AE

theorem spec_l9Draw_ok {r : List Int × Int} {o1 : List Int} (o2 : List RuleT) (h : RdOk r 710000000) (ho : o1.length ≤ 8) : ∃ r' l, spec_l9Draw__rsd r o1 o2 = some (r', l) ∧ Adv r r' 10 ∧ l.length ≤ 9 := by
  unfold spec_l9Draw__rsd
  have key := loop_ex (f := spec_l9Draw__rsd_l1 o1) (fun s => 0 ≤ s.1 ∧ s.1 ≤ o1.length ∧ Adv r s.2.1 s.1 ∧ (s.2.2.length : Int) ≤ s.1) (fun s => (o1.length - s.1).toNat)
    (fun o => Adv r o.1 10 ∧ o.2.length ≤ 9) ?_ ((0 : Int), r, []) ⟨Int.le_refl _, by (try dsimp only) <;> omega, Adv.refl r (Int.le_refl _), by simp⟩
  · obtain ⟨⟨r', l⟩, q1, q2⟩ := key
    exact ⟨r', l, q1, q2⟩
  rintro ⟨i, q, l⟩ ⟨g1, g2, g3, g4⟩
  dsimp only at g1 g2 g3 g4 ⊢
  have hq : RdOk q 710000008 := g3.ok h (by omega)
  unfold spec_l9Draw__rsd_l1
  dsimp only
  by_cases h1 : i < o1.length
  · left
    obtain ⟨x, q1, e1, a1, _⟩ := num_adv (l := [1, -1, 2, 0, -2, 3]) (hq.wk (by omega)) (by decide)
    rw [cdec_pos h1, e1, bind_s, rq_pos (by simp [bound]; omega), rq_i64 (by omega) (by omega)]
    exact ⟨_, rfl, ⟨by (try dsimp only) <;> omega, by (try dsimp only) <;> omega, g3.trans a1 (Int.le_refl _), by simp; omega⟩, by (try dsimp only) <;> omega⟩
  · right
    obtain ⟨x, q1, e1, a1, _⟩ := pick_adv 30 (hq.wk (show (710000008 : Int) ≤ 1000000000 by omega))
    have hq1 : RdOk q1 710000009 := a1.ok hq (by omega)
    rw [cdec_neg h1]
    unfold spec_l9Draw__rsd_j1
    dsimp only
    rw [e1, bind_s]
    dsimp only
    cases (x == 0) with
    | true =>
      rw [ctt]
      by_cases h2 : (0 : Int) < l.length
      · obtain ⟨y, q2, e2, a2, _⟩ := num_adv (l := [10, -10, 9, 9223372036854775807]) (hq1.wk (by omega)) (by simp)
        rw [cdec_pos h2, e2, bind_s, rq_pos ⟨by omega, h2⟩]
        exact ⟨_, rfl, (g3.trans a1 (Int.le_refl _)).trans a2 (by omega), by (try dsimp only) <;> (rw [List.length_set]; omega)⟩
      · rw [cdec_neg h2]
        exact ⟨_, rfl, g3.trans a1 (by omega), by (try dsimp only) <;> omega⟩
    | false =>
      rw [cff]
      cases (x == 1) with
      | true =>
        rw [ctt, rq_pos (by simp [bound]; omega)]
        exact ⟨_, rfl, g3.trans a1 (by omega), by simp; omega⟩
      | false =>
        rw [cff]
        exact ⟨_, rfl, g3.trans a1 (by omega), by (try dsimp only) <;> omega⟩

theorem okM_of {m : ModT} (h : m.1.length ≤ 6 ∧ m.2.length ≤ 4 ∧ ∀ r ∈ m.2, okR r) : okM m := ⟨by have := h.1; omega, by have := h.2.1; omega, h.2.2⟩

/-! ### Objectives are linear -/

theorem valZ_neg (c x : List Int) (n : Nat) : valZ (c.map (fun y => 0 - y)) x n = 0 - valZ c x n := by
  induction n with
  | zero => simp [valZ]
  | succ n ih =>
    rw [valZ_succ, valZ_succ, ih]
    rcases Nat.lt_or_ge n c.length with h | h
    · rw [getD_map c (fun y => 0 - y) n 0 0 h]
      rw [Int.sub_mul]
      omega
    · have e1 : (c.map (fun y => 0 - y)).getD n 0 = 0 := by rw [List.getD_eq_getElem?_getD, List.getElem?_eq_none (by rw [List.length_map]; exact h)]; rfl
      have e2 : c.getD n 0 = 0 := by rw [List.getD_eq_getElem?_getD, List.getElem?_eq_none h]; rfl
      rw [e1, e2, Int.zero_mul]
      omega

theorem valZ_zero (c : List Int) (k n : Nat) : valZ c (List.replicate k 0) n = 0 := by
  induction n with
  | zero => rfl
  | succ n ih =>
    rw [valZ_succ, ih]
    have : (List.replicate k (0 : Int)).getD n 0 = 0 := by
      rw [List.getD_eq_getElem?_getD]
      rcases Nat.lt_or_ge n k with h | h
      · rw [List.getElem?_replicate_of_lt h]; rfl
      · rw [List.getElem?_eq_none (by rw [List.length_replicate]; exact h)]; rfl
    rw [this]
    simp

theorem objB_neg {m : ModT} {c : List Int} (h : objB m c = true) : objB m (c.map (fun y => 0 - y)) = true := by
  unfold objB at h ⊢
  simp only [Bool.and_eq_true, decide_eq_true_eq, List.all_eq_true] at h ⊢
  refine ⟨by rw [List.length_map]; exact h.1, fun y hy => ?_⟩
  obtain ⟨z, hz, rfl⟩ := List.mem_map.1 hy
  have := h.2 z hz
  unfold wtB at this ⊢
  simp only [Bool.and_eq_true, decide_eq_true_eq] at this ⊢
  omega

theorem cellsB_zero {m : ModT} (hm : modB m = true) : cellsB m (List.replicate m.1.length 0) = true := by
  unfold cellsB
  simp only [Bool.and_eq_true, decide_eq_true_eq, List.all_eq_true]
  refine ⟨List.length_replicate, fun i hi => ?_⟩
  have hi : i < m.1.length := by have := List.mem_range.1 hi; rwa [List.length_replicate] at this
  unfold modB at hm
  simp only [Bool.and_eq_true, decide_eq_true_eq, List.all_eq_true] at hm
  have h2 := hm.2.2.1 _ (getD_mem (l := m.1) (i := i) (d := 0) hi)
  unfold cellB at h2
  unfold cellAt
  rw [List.getD_eq_getElem?_getD, List.getElem?_replicate_of_lt hi]
  simp only [Bool.and_eq_true, decide_eq_true_eq, Option.getD_some] at h2 ⊢
  omega

end Go.AE.Y
