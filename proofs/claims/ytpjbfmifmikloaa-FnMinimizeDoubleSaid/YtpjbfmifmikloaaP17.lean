/-
  Plain laws of the source that data are drawn from.
-/
import Derived.Test.YtpjbfmifmikloaaPBase
import Derived.Test.YtpjbfmifmikloaaR3M
namespace Go.AE.Y
open Go Go.AE

/-- A reader with bytes, that has given at most m numbers. -/
structure RdOk (r : List Int × Int) (m : Int) : Prop where
  byte : ∀ x ∈ r.1, 0 ≤ x ∧ x ≤ 255
  len : r.1.length ≤ 2000
  low : 0 ≤ r.2
  high : r.2 ≤ m

theorem getD_byte {b : List Int} (h : ∀ x ∈ b, 0 ≤ x ∧ x ≤ 255) (i : Nat) : 0 ≤ b.getD i 0 ∧ b.getD i 0 ≤ 255 := by
  rcases Nat.lt_or_ge i b.length with hi | hi
  · rw [List.getD_eq_getElem?_getD, List.getElem?_eq_getElem hi]
    exact h _ (List.getElem_mem hi)
  · rw [List.getD_eq_getElem?_getD, List.getElem?_eq_none hi]
    decide

theorem pick_ok {n : Int} {r : List Int × Int} (h : RdOk r 1000000000) :
    ∃ x, spec_l17Rd_pick n r = some (x, (r.1, r.2 + 1)) ∧ 0 ≤ x ∧ (1 ≤ n → x < n) ∧ (n < 1 → x = 0) := by
  obtain ⟨b, p⟩ := r
  obtain ⟨hb, hlen, hp1, hp2⟩ := h
  dsimp only at hb hlen hp1 hp2
  unfold spec_l17Rd_pick
  dsimp only
  simp (disch := omega) only [rq_i64]
  by_cases h1 : n < 1
  · simp (disch := omega) only [cdec_pos]
    exact ⟨0, rfl, by omega, by omega, fun _ => rfl⟩
  · simp (disch := omega) only [cdec_neg]
    by_cases h2 : b.length = 0
    · simp (disch := omega) only [cbeq_pos]
      exact ⟨0, rfl, by omega, by omega, fun _ => rfl⟩
    · simp (disch := omega) only [cbeq_neg, rq_i64]
      by_cases h3 : p < b.length
      · have e : p + 1 - 1 < (b.length : Int) := by omega
        have g := getD_byte hb (p + 1 - 1).toNat
        simp (disch := omega) only [cdec_pos, rq_pos, rq_i64]
        exact ⟨_, rfl, Int.emod_nonneg _ (by omega), fun _ => Int.emod_lt_of_pos _ (by omega), by omega⟩
      · have r1 := Int.emod_nonneg (p + 1 - 1) (show (b.length : Int) ≠ 0 by omega)
        have r2 := Int.emod_lt_of_pos (p + 1 - 1) (show (0 : Int) < b.length by omega)
        have r3 := Int.emod_nonneg ((p + 1 - 1) * 7 + 3) (show (b.length : Int) ≠ 0 by omega)
        have r4 := Int.emod_lt_of_pos ((p + 1 - 1) * 7 + 3) (show (0 : Int) < b.length by omega)
        have r5 : 0 ≤ (p + 1 - 1) / (b.length : Int) := Int.ediv_nonneg (by omega) (by omega)
        have r6 : (p + 1 - 1) / (b.length : Int) ≤ p + 1 - 1 := Int.ediv_le_self _ (by omega)
        have g1 := getD_byte hb ((p + 1 - 1) % (b.length : Int)).toNat
        have g2 := getD_byte hb (((p + 1 - 1) * 7 + 3) % (b.length : Int)).toNat
        generalize hu : b.getD ((p + 1 - 1) % (b.length : Int)).toNat 0 = u at g1 ⊢
        generalize hv : b.getD (((p + 1 - 1) * 7 + 3) % (b.length : Int)).toNat 0 = v at g2 ⊢
        generalize hq : (p + 1 - 1) / (b.length : Int) = q at r5 r6 ⊢
        simp (disch := omega) only [cdec_neg, rq_pos, rq_i64]
        exact ⟨_, rfl, Int.emod_nonneg _ (by omega), fun _ => Int.emod_lt_of_pos _ (by omega), by omega⟩

theorem RdOk.next {r : List Int × Int} {m k : Int} (h : RdOk r m) (hk : r.2 ≤ k) {m' : Int} (hm : k ≤ m') : RdOk (r.1, k) m' := ⟨h.byte, h.len, by have := h.low; dsimp only; omega, hm⟩

theorem num_ok {l : List Int} {r : List Int × Int} (h : RdOk r 1000000000) (hl : 1 ≤ l.length) : ∃ x, spec_l17Rd_num l r = some (x, (r.1, r.2 + 1)) ∧ x ∈ l := by
  unfold spec_l17Rd_num
  obtain ⟨x, h1, h2, h3, _⟩ := pick_ok (n := (l.length : Int)) h
  have h3 := h3 (by omega)
  rw [h1]
  simp only [Option.bind_some]
  rw [rq_pos ⟨h2, h3⟩]
  refine ⟨_, rfl, ?_⟩
  rw [List.getD_eq_getElem?_getD, List.getElem?_eq_getElem (by omega)]
  exact List.getElem_mem _

theorem open_ok {a : List Int} (h : ∀ x ∈ a, 0 ≤ x ∧ x ≤ 255) : ∃ r, spec_l17Open a = some r ∧ RdOk r 0 := by
  unfold spec_l17Open spec_l17Open_j1
  by_cases h1 : a.length ≤ 2000
  · simp (disch := omega) only [cdec_neg]
    exact ⟨_, rfl, h, h1, Int.le_refl _, Int.le_refl _⟩
  · simp (disch := omega) only [cdec_pos, rq_pos]
    exact ⟨_, rfl, fun x hx => h x (List.mem_of_mem_take hx), by simp; omega, Int.le_refl _, Int.le_refl _⟩

end Go.AE.Y
