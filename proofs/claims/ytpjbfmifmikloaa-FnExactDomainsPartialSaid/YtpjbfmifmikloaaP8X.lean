/-
  Plain laws: sizes, copies and comparisons of domains.
-/
import Derived.Test.YtpjbfmifmikloaaP6X
namespace Go.AE.Y
open Go Go.AE

theorem szBoolS_ex (a : List Bool) (left : Int) (h0 : 0 ≤ left) (h1 : left ≤ 1048576) (h : a.length ≤ maxLen) :
    ∃ r, laws_szBoolS a left = some r ∧ r ≤ left ∧ (0 ≤ r → a.length ≤ 1048576) := by
  simp only [maxLen] at h
  unfold laws_szBoolS
  rw [rq_i64 (by omega) (by omega)]
  by_cases h2 : left - (a.length : Int) < 0
  · exact ⟨-1, by rw [cdec_pos h2], by omega, by omega⟩
  · exact ⟨_, by rw [cdec_neg h2], by omega, by omega⟩

theorem szBoolSS_ex (a : List (List Bool)) (left : Int) (h0 : 0 ≤ left) (h1 : left ≤ 1048576) (h : a.length ≤ maxLen) (hx : ∀ x ∈ a, x.length ≤ maxLen) :
    ∃ r, laws_szBoolSS a left = some r ∧ r ≤ left ∧ (0 ≤ r → a.length ≤ 1048576 ∧ ∀ x ∈ a, x.length ≤ 1048576) := by
  have h' := h
  simp only [maxLen] at h'
  unfold laws_szBoolSS
  rw [rq_i64 (by omega) (by omega)]
  by_cases h2 : left - (a.length : Int) < 0
  · exact ⟨-1, by rw [cdec_pos h2], by omega, by omega⟩
  · rw [cdec_neg h2]
    refine loop_ex (fun s : Int × Int => ∃ i : Nat, s.2 = i ∧ i ≤ a.length ∧ 0 ≤ s.1 ∧ s.1 ≤ left ∧ ∀ j, j < i → (a.getD j []).length ≤ 1048576) (fun s => a.length - s.2.toNat)
      (fun r => r ≤ left ∧ (0 ≤ r → a.length ≤ 1048576 ∧ ∀ x ∈ a, x.length ≤ 1048576)) ?_ _ ⟨0, rfl, Nat.zero_le _, by dsimp only; omega, by dsimp only; omega, fun j hj => by omega⟩
    rintro ⟨l1, s⟩ ⟨i, rfl, hi, hl0, hl1, hpre⟩
    dsimp only at hl0 hl1 ⊢
    unfold laws_szBoolSS_l1
    dsimp only
    rcases Nat.lt_or_ge i a.length with h3 | h3
    · obtain ⟨r, hr1, hr2, hr3⟩ := szBoolS_ex (a.getD i []) l1 hl0 (by omega) (hx _ (getD_mem h3))
      rw [cdec_pos (by omega), rq_pos ⟨by omega, by omega⟩, Int.toNat_natCast, hr1, bind_s]
      by_cases hr : r < 0
      · right
        rw [cdec_pos hr]
        exact ⟨-1, rfl, by omega, by omega⟩
      · left
        rw [cdec_neg hr, rq_i64 (by omega) (by omega)]
        refine ⟨_, rfl, ⟨i + 1, by simp, by omega, by dsimp only; omega, by dsimp only; omega, fun j hj => ?_⟩, by dsimp only; omega⟩
        rcases Nat.lt_or_ge j i with h4 | h4
        · exact hpre j h4
        · rw [show j = i by omega]; exact hr3 (by omega)
    · right
      have : i = a.length := by omega
      subst this
      rw [cdec_neg (by omega)]
      refine ⟨_, rfl, hl1, fun _ => ⟨by omega, fun x hx' => ?_⟩⟩
      obtain ⟨j, hj, rfl⟩ := List.mem_iff_getElem.1 hx'
      have := hpre j hj
      simpa [List.getD_eq_getElem?_getD, hj] using this

theorem toBoolSS_eq (a : List (List Bool)) (h : a.length ≤ 4000000000) (hx : ∀ x ∈ a, x.length ≤ 4000000000) : laws_toBoolSS a = some a := by
  unfold laws_toBoolSS
  rw [rq_pos (by simp [bound]; omega)]
  rw [Int.toNat_natCast]
  refine (loop_copy a [] [] id (fun i out hi ho => ?_) (fun out => ?_)).trans (by simp)
  · have h2 := hx _ (getD_mem (d := []) hi)
    unfold laws_toBoolSS_l1
    dsimp only
    rw [cdec_pos (by omega), rq_pos ⟨by omega, by omega⟩, Int.toNat_natCast, toBoolS_eq _ h2, bind_s, rq_pos ⟨by omega, by omega⟩, rq_i64 (by omega) (by omega)]
    rfl
  · unfold laws_toBoolSS_l1
    dsimp only
    rw [cdec_neg (by omega)]

theorem eqBoolSS_same (a : List (List Bool)) (h : a.length ≤ 4000000000) (hx : ∀ x ∈ a, x.length ≤ 4000000000) : laws_eqBoolSS a a = some true := by
  unfold laws_eqBoolSS
  rw [cbne_neg rfl, loop_all a.length (fun _ => true) false true]
  · rw [List.all_eq_true.2 (fun _ _ => rfl)]; rfl
  · intro i hi _
    unfold laws_eqBoolSS_l1
    rw [cdec_pos (by omega), rq_pos ⟨by omega, by omega⟩, rq_pos ⟨by omega, by omega⟩, Int.toNat_natCast, eqBoolS_self _ (hx _ (getD_mem hi)), bind_s, cnt, rq_i64 (by omega) (by omega), ctt]
  · unfold laws_eqBoolSS_l1
    rw [cdec_neg (by omega)]


end Go.AE.Y
