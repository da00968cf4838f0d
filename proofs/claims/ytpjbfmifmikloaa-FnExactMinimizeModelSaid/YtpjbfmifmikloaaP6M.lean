/-
  Plain laws: marks on models and domains.
-/
import Derived.Test.YtpjbfmifmikloaaP8
import Derived.Test.YtpjbfmifmikloaaP11D
namespace Go.AE.Y
open Go Go.AE

theorem markIntSd_ex (a : List Int) (k : Int) (hk : 0 ≤ k ∧ k ≤ 9000000000000000000) (h : a.length ≤ 4000000000) : ∃ r, laws_markIntS__d k a = some r ∧ r.1 = k + a.length ∧ r.2.length = a.length := by
  unfold laws_markIntS__d
  refine loop_ex (fun s : Int × Int × List Int => ∃ i : Nat, s.2.1 = i ∧ i ≤ a.length ∧ s.1 = k + i ∧ s.2.2.length = a.length) (fun s => a.length - s.2.1.toNat) (fun r : Int × List Int => r.1 = k + a.length ∧ r.2.length = a.length) ?_ _ ⟨0, rfl, Nat.zero_le _, by dsimp only; omega, rfl⟩
  rintro ⟨k1, s, a1⟩ ⟨i, rfl, hi, hk1, hl⟩
  dsimp only at hk1 hl ⊢
  subst hk1
  unfold laws_markIntS__d_l1
  rcases Nat.lt_or_ge i a.length with h1 | h1
  · left
    simp (disch := omega) only [cdec_pos, rq_pos, rq_i64]
    exact ⟨_, rfl, ⟨i + 1, by simp, by omega, by simp only [Int.natCast_add]; omega, by simp [hl]⟩, by dsimp only; omega⟩
  · right
    simp (disch := omega) only [cdec_neg]
    exact ⟨_, rfl, by dsimp only; omega, hl⟩

theorem markIntSS_ex (a : List (List Int)) (k : Int) (hk : 0 ≤ k ∧ k ≤ 8000000000000000000) (h : a.length ≤ 1048576) (hx : ∀ x ∈ a, x.length ≤ 1048576) :
    ∃ r, laws_markIntSS k a = some r ∧ k ≤ r.1 ∧ r.1 ≤ k + 1048576 * a.length ∧ r.2.length = a.length := by
  unfold laws_markIntSS
  refine loop_ex (fun s : Int × Int × List (List Int) => ∃ i : Nat, s.2.1 = i ∧ i ≤ a.length ∧ k ≤ s.1 ∧ s.1 ≤ k + 1048576 * i ∧ s.2.2.length = a.length ∧ ∀ j, i ≤ j → s.2.2.getD j [] = a.getD j []) (fun s => a.length - s.2.1.toNat)
    (fun r : Int × List (List Int) => k ≤ r.1 ∧ r.1 ≤ k + 1048576 * a.length ∧ r.2.length = a.length) ?_ _ ⟨0, rfl, Nat.zero_le _, by dsimp only; omega, by dsimp only; omega, rfl, fun _ _ => rfl⟩
  rintro ⟨k1, s, a1⟩ ⟨i, rfl, hi, g1, g2, hl, hpre⟩
  dsimp only at g1 g2 hl hpre ⊢
  unfold laws_markIntSS_l1
  dsimp only
  rcases Nat.lt_or_ge i a.length with h1 | h1
  · left
    have hy := hx _ (getD_mem (l := a) (i := i) (d := []) h1)
    rw [← hpre i (Nat.le_refl _)] at hy
    obtain ⟨r, e, e1, e2⟩ := markIntSd_ex (a1.getD i []) k1 ⟨by omega, by omega⟩ (by omega)
    rw [cdec_pos (by omega), rq_pos ⟨by omega, by omega⟩, Int.toNat_natCast, e, bind_s, rq_i64 (by omega) (by omega)]
    refine ⟨_, rfl, ⟨i + 1, by simp, by omega, by (try dsimp only) <;> omega, by (try dsimp only) <;> omega, by simp [hl], fun j hj => ?_⟩, by dsimp only; omega⟩
    dsimp only
    rw [getD_set_ne' (by omega)]
    exact hpre j (by omega)
  · right
    have : i = a.length := by omega
    subst this
    rw [cdec_neg (by omega)]
    exact ⟨_, rfl, g1, g2, hl⟩

theorem markRuleS_ex (a : List RuleT) (k : Int) (hk : 0 ≤ k ∧ k ≤ 2000000) (h : a.length ≤ 1048576) (hx : ∀ x ∈ a, smallR x) :
    ∃ r, laws_markRuleS k a = some r ∧ k ≤ r.1 ∧ r.1 ≤ k + 1099513724930 * a.length ∧ r.2.length = a.length := by
  unfold laws_markRuleS
  refine loop_ex (fun s : Int × Int × List RuleT => ∃ i : Nat, s.2.1 = i ∧ i ≤ a.length ∧ k ≤ s.1 ∧ s.1 ≤ k + 1099513724930 * i ∧ s.2.2.length = a.length ∧ ∀ j, i ≤ j → s.2.2.getD j (0, [], [], 0, []) = a.getD j (0, [], [], 0, [])) (fun s => a.length - s.2.1.toNat)
    (fun r : Int × List RuleT => k ≤ r.1 ∧ r.1 ≤ k + 1099513724930 * a.length ∧ r.2.length = a.length) ?_ _ ⟨0, rfl, Nat.zero_le _, by dsimp only; omega, by dsimp only; omega, rfl, fun _ _ => rfl⟩
  rintro ⟨k1, s, a1⟩ ⟨i, rfl, hi, g1, g2, hl, hpre⟩
  dsimp only at g1 g2 hl hpre ⊢
  unfold laws_markRuleS_l1
  dsimp only
  rcases Nat.lt_or_ge i a.length with h1 | h1
  · left
    have hy := hx _ (getD_mem (l := a) (i := i) (d := (0, [], [], 0, [])) h1)
    rw [← hpre i (Nat.le_refl _)] at hy
    have es : ∀ v : RuleT, (a1.set i v).getD i (0, [], [], 0, []) = v := fun v => getD_set_eq' (by omega)
    rw [cdec_pos (by omega)]
    simp only [Int.toNat_natCast, List.set_set, es, List.length_set]
    generalize a1.getD i (0, [], [], 0, []) = b at hy ⊢
    obtain ⟨y1, y2, y3, y4⟩ := hy
    obtain ⟨r4, e4, p4, _⟩ := markIntSd_ex b.2.1 (k1 + 1) ⟨by omega, by omega⟩ (by omega)
    obtain ⟨r5, e5, p5, _⟩ := markIntSd_ex b.2.2.1 r4.1 ⟨by omega, by omega⟩ (by omega)
    obtain ⟨r6, e6, p6, p6', _⟩ := markIntSS_ex b.2.2.2.2 (r5.1 + 1) ⟨by omega, by omega⟩ (by omega) y4
    rw [rq_pos ⟨by omega, by omega⟩, rq_i64 (by omega) (by omega), rq_pos ⟨by omega, by omega⟩, e4, bind_s, rq_pos ⟨by omega, by omega⟩, e5, bind_s, rq_pos ⟨by omega, by omega⟩, rq_i64 (by omega) (by omega), rq_pos ⟨by omega, by omega⟩, e6, bind_s, rq_i64 (by omega) (by omega)]
    refine ⟨_, rfl, ⟨i + 1, by simp, by omega, by (try dsimp only) <;> omega, by (try dsimp only) <;> omega, by simp [hl], fun j hj => ?_⟩, by dsimp only; omega⟩
    dsimp only
    rw [getD_set_ne' (by omega)]
    exact hpre j (by omega)
  · right
    have : i = a.length := by omega
    subst this
    rw [cdec_neg (by omega)]
    exact ⟨_, rfl, g1, g2, hl⟩

theorem markModel_ex (m : ModT) (h : smallM m) : ∃ r, laws_markModel 1 m.1 m.2 = some r ∧ 1 ≤ r.1 ∧ r.1 ≤ 2000000000000000000 ∧ r.2.1.length = m.1.length := by
  obtain ⟨h1, h2, h3⟩ := h
  unfold laws_markModel
  obtain ⟨r1, e1, p1, l1⟩ := markIntS_ex m.1 1 ⟨by omega, by omega⟩ (by omega)
  obtain ⟨r2, e2, p2, p2', _⟩ := markRuleS_ex m.2 r1.1 ⟨by omega, by omega⟩ h2 h3
  rw [e1, bind_s, e2, bind_s]
  exact ⟨_, rfl, by (try dsimp only) <;> omega, by (try dsimp only) <;> omega, l1⟩

end Go.AE.Y
