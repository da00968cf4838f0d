/-
  Plain laws: sizes, copies and comparisons of models; permutations of cells.
-/
import Derived.Test.YtpjbfmifmikloaaP6
namespace Go.AE.Y
open Go Go.AE

@[reducible] def tyRule : Ty := .pair (.int .i64) (.pair (.sl (.int .i64)) (.pair (.sl (.int .i64)) (.pair (.int .i64) (.sl (.sl (.int .i64))))))
@[reducible] def tyModel : Ty := .pair (.sl (.int .i64)) (.sl tyRule)

theorem szIntS_ex (a : List Int) (left : Int) (h0 : 0 ≤ left) (h1 : left ≤ 1048576) (h : a.length ≤ maxLen) :
    ∃ r, laws_szIntS a left = some r ∧ r ≤ left ∧ (0 ≤ r → a.length ≤ 1048576) := by
  simp only [maxLen] at h
  unfold laws_szIntS
  rw [rq_i64 (by omega) (by omega)]
  by_cases h2 : left - (a.length : Int) < 0
  · exact ⟨-1, by rw [cdec_pos h2], by omega, by omega⟩
  · exact ⟨_, by rw [cdec_neg h2], by omega, by omega⟩

theorem szIntSS_ex (a : List (List Int)) (left : Int) (h0 : 0 ≤ left) (h1 : left ≤ 1048576) (h : a.length ≤ maxLen) (hx : ∀ x ∈ a, x.length ≤ maxLen) :
    ∃ r, laws_szIntSS a left = some r ∧ r ≤ left ∧ (0 ≤ r → a.length ≤ 1048576 ∧ ∀ x ∈ a, x.length ≤ 1048576) := by
  have h' := h
  simp only [maxLen] at h'
  unfold laws_szIntSS
  rw [rq_i64 (by omega) (by omega)]
  by_cases h2 : left - (a.length : Int) < 0
  · exact ⟨-1, by rw [cdec_pos h2], by omega, by omega⟩
  · rw [cdec_neg h2]
    refine loop_ex (fun s : Int × Int => ∃ i : Nat, s.2 = i ∧ i ≤ a.length ∧ 0 ≤ s.1 ∧ s.1 ≤ left ∧ ∀ j, j < i → (a.getD j []).length ≤ 1048576) (fun s => a.length - s.2.toNat)
      (fun r => r ≤ left ∧ (0 ≤ r → a.length ≤ 1048576 ∧ ∀ x ∈ a, x.length ≤ 1048576)) ?_ _ ⟨0, rfl, Nat.zero_le _, by dsimp only; omega, by dsimp only; omega, fun j hj => by omega⟩
    rintro ⟨l1, s⟩ ⟨i, rfl, hi, hl0, hl1, hpre⟩
    dsimp only at hl0 hl1 ⊢
    unfold laws_szIntSS_l1
    dsimp only
    rcases Nat.lt_or_ge i a.length with h3 | h3
    · obtain ⟨r, hr1, hr2, hr3⟩ := szIntS_ex (a.getD i []) l1 hl0 (by omega) (hx _ (getD_mem h3))
      rw [cdec_pos (by omega), rq_pos ⟨by omega, by omega⟩, Int.toNat_natCast, hr1, bind_s]
      by_cases hr : r < 0
      · right
        rw [cdec_pos hr]
        exact ⟨-1, rfl, by omega, by omega⟩
      · left
        rw [cdec_neg hr, rq_i64 (by omega) (by omega)]
        refine ⟨_, rfl, ⟨i + 1, by simp, by omega, by dsimp only; omega, by dsimp only; omega, fun j hj => ?_⟩, by dsimp only; omega⟩
        rcases Nat.lt_or_ge j i with h4 | h4
        · exact hpre j h4
        · rw [show j = i by omega]; exact hr3 (by omega)
    · right
      have : i = a.length := by omega
      subst this
      rw [cdec_neg (by omega)]
      refine ⟨_, rfl, hl1, fun _ => ⟨by omega, fun x hx' => ?_⟩⟩
      obtain ⟨j, hj, rfl⟩ := List.mem_iff_getElem.1 hx'
      have := hpre j hj
      simpa [List.getD_eq_getElem?_getD, hj] using this

theorem szRule_ex (a : RuleT) (left : Int) (h0 : 0 ≤ left) (h1 : left ≤ 1048576) (h : okD tyRule a) :
    ∃ r, laws_szRule a left = some r ∧ r ≤ left ∧ (0 ≤ r → smallR a) := by
  obtain ⟨_, ⟨k1, _⟩, ⟨k2, _⟩, _, ⟨k3, k4⟩⟩ := h
  unfold laws_szRule
  obtain ⟨r1, e1, q1, p1⟩ := szIntS_ex a.2.1 left h0 h1 k1
  rw [e1, bind_s]
  by_cases g1 : r1 < 0
  · exact ⟨-1, by rw [cdec_pos g1], by omega, by omega⟩
  obtain ⟨r2, e2, q2, p2⟩ := szIntS_ex a.2.2.1 r1 (by omega) (by omega) k2
  rw [cdec_neg g1, e2, bind_s]
  by_cases g2 : r2 < 0
  · exact ⟨-1, by rw [cdec_pos g2], by omega, by omega⟩
  obtain ⟨r3, e3, q3, p3⟩ := szIntSS_ex a.2.2.2.2 r2 (by omega) (by omega) k3 (fun x hx => (k4 x hx).1)
  rw [cdec_neg g2, e3, bind_s]
  by_cases g3 : r3 < 0
  · exact ⟨-1, by rw [cdec_pos g3], by omega, by omega⟩
  · refine ⟨r3, by rw [cdec_neg g3], by omega, fun _ => ⟨p1 (by omega), p2 (by omega), (p3 (by omega)).1, (p3 (by omega)).2⟩⟩

theorem szModel_le (m : ModT) (h : okD tyModel m) : ∃ r, laws_szModel m 1048576 = some r ∧ r ≤ 1048576 ∧ (r < 0 ∨ smallM m) := by
  obtain ⟨⟨k1, _⟩, ⟨k2, k3⟩⟩ := h
  unfold laws_szModel
  obtain ⟨r1, e1, q1, p1⟩ := szIntS_ex m.1 1048576 (by omega) (by omega) k1
  rw [e1, bind_s]
  by_cases g1 : r1 < 0
  · exact ⟨-1, by rw [cdec_pos g1], by omega, by omega⟩
  rw [cdec_neg g1]
  have k2' := k2
  simp only [maxLen] at k2'
  have key : ∃ r2, laws_szRuleS m.2 r1 = some r2 ∧ r2 ≤ 1048576 ∧ (0 ≤ r2 → m.2.length ≤ 1048576 ∧ ∀ x ∈ m.2, smallR x) := by
    unfold laws_szRuleS
    rw [rq_i64 (by omega) (by omega)]
    by_cases h2 : r1 - (m.2.length : Int) < 0
    · exact ⟨-1, by rw [cdec_pos h2], by omega, by omega⟩
    · rw [cdec_neg h2]
      refine loop_ex (fun s : Int × Int => ∃ i : Nat, s.2 = i ∧ i ≤ m.2.length ∧ 0 ≤ s.1 ∧ s.1 ≤ 1048576 ∧ ∀ j, j < i → smallR (m.2.getD j (0, ([], ([], (0, [])))))) (fun s => m.2.length - s.2.toNat)
        (fun r => r ≤ 1048576 ∧ (0 ≤ r → m.2.length ≤ 1048576 ∧ ∀ x ∈ m.2, smallR x)) ?_ _ ⟨0, rfl, Nat.zero_le _, by dsimp only; omega, by dsimp only; omega, fun j hj => by omega⟩
      rintro ⟨l1, s⟩ ⟨i, rfl, hi, hl0, hl1, hpre⟩
      dsimp only at hl0 hl1 ⊢
      unfold laws_szRuleS_l1
      dsimp only
      rcases Nat.lt_or_ge i m.2.length with h3 | h3
      · obtain ⟨r, hr1, hr2, hr3⟩ := szRule_ex (m.2.getD i (0, ([], ([], (0, []))))) l1 hl0 (by omega) (k3 _ (getD_mem h3))
        rw [cdec_pos (by omega), rq_pos ⟨by omega, by omega⟩, Int.toNat_natCast, hr1, bind_s]
        by_cases hr : r < 0
        · right
          rw [cdec_pos hr]
          exact ⟨-1, rfl, by omega, by omega⟩
        · left
          rw [cdec_neg hr, rq_i64 (by omega) (by omega)]
          refine ⟨_, rfl, ⟨i + 1, by simp, by omega, by dsimp only; omega, by dsimp only; omega, fun j hj => ?_⟩, by dsimp only; omega⟩
          rcases Nat.lt_or_ge j i with h4 | h4
          · exact hpre j h4
          · rw [show j = i by omega]; exact hr3 (by omega)
      · right
        have : i = m.2.length := by omega
        subst this
        rw [cdec_neg (by omega)]
        refine ⟨_, rfl, by omega, fun _ => ⟨by omega, fun x hx' => ?_⟩⟩
        obtain ⟨j, hj, rfl⟩ := List.mem_iff_getElem.1 hx'
        have := hpre j hj
        rwa [List.getD_eq_getElem?_getD, List.getElem?_eq_getElem hj] at this
  obtain ⟨r2, e2, z2, p2⟩ := key
  rw [e2, bind_s]
  by_cases g2 : r2 < 0
  · exact ⟨-1, by rw [cdec_pos g2], by omega, by omega⟩
  · refine ⟨r2, by rw [cdec_neg g2], z2, .inr ⟨p1 (by omega), (p2 (by omega)).1, (p2 (by omega)).2⟩⟩

theorem szModel_ex (m : ModT) (h : okD tyModel m) : ∃ r, laws_szModel m 1048576 = some r ∧ (r < 0 ∨ smallM m) := by
  obtain ⟨r, e, _, q⟩ := szModel_le m h
  exact ⟨r, e, q⟩

theorem toIntSS_eq (a : List (List Int)) (h : a.length ≤ 4000000000) (hx : ∀ x ∈ a, x.length ≤ 4000000000) : laws_toIntSS a = some a := by
  unfold laws_toIntSS
  rw [rq_pos (by simp [bound]; omega)]
  rw [Int.toNat_natCast]
  refine (loop_copy a [] [] id (fun i out hi ho => ?_) (fun out => ?_)).trans (by simp)
  · have h2 := hx _ (getD_mem (d := []) hi)
    unfold laws_toIntSS_l1
    dsimp only
    rw [cdec_pos (by omega), rq_pos ⟨by omega, by omega⟩, Int.toNat_natCast, toIntS_eq _ h2, bind_s, rq_pos ⟨by omega, by omega⟩, rq_i64 (by omega) (by omega)]
    rfl
  · unfold laws_toIntSS_l1
    dsimp only
    rw [cdec_neg (by omega)]

theorem toRule_eq (r : RuleT) (h : smallR r) : laws_toRule r = some (r.1, r.2.2.2.1, r.2.1, r.2.2.1, r.2.2.2.2) := by
  obtain ⟨h1, h2, h3, h4⟩ := h
  unfold laws_toRule
  rw [toIntS_eq _ (by omega), bind_s, toIntS_eq _ (by omega), bind_s, toIntSS_eq _ (by omega) (fun x hx => by have := h4 x hx; omega), bind_s]

theorem toRuleS_eq (a : List RuleT) (h : a.length ≤ 1048576) (hx : ∀ x ∈ a, smallR x) : laws_toRuleS a = some a := by
  unfold laws_toRuleS
  rw [rq_pos (by simp [bound]; omega)]
  rw [Int.toNat_natCast]
  refine (loop_copy a (0, ([], ([], (0, [])))) (0, ([], ([], (0, [])))) id (fun i out hi ho => ?_) (fun out => ?_)).trans (by simp)
  · have h2 := hx _ (getD_mem (d := (0, ([], ([], (0, []))))) hi)
    unfold laws_toRuleS_l1
    dsimp only
    rw [cdec_pos (by omega), rq_pos ⟨by omega, by omega⟩, Int.toNat_natCast, toRule_eq _ h2, bind_s, rq_pos ⟨by omega, by omega⟩, rq_i64 (by omega) (by omega)]
    rfl
  · unfold laws_toRuleS_l1
    dsimp only
    rw [cdec_neg (by omega)]

theorem toModel_eq (m : ModT) (h : smallM m) : laws_toModel m = some m := by
  obtain ⟨h1, h2, h3⟩ := h
  unfold laws_toModel
  rw [toIntS_eq _ (by omega), bind_s, toRuleS_eq _ h2 h3, bind_s]

theorem eqIntSS_same (a : List (List Int)) (h : a.length ≤ 4000000000) (hx : ∀ x ∈ a, x.length ≤ 4000000000) : laws_eqIntSS a a = some true := by
  unfold laws_eqIntSS
  rw [cbne_neg rfl, loop_all a.length (fun _ => true) false true]
  · rw [List.all_eq_true.2 (fun _ _ => rfl)]; rfl
  · intro i hi _
    unfold laws_eqIntSS_l1
    rw [cdec_pos (by omega), rq_pos ⟨by omega, by omega⟩, rq_pos ⟨by omega, by omega⟩, Int.toNat_natCast, eqIntS_self _ (hx _ (getD_mem hi)), bind_s, cnt, rq_i64 (by omega) (by omega), ctt]
  · unfold laws_eqIntSS_l1
    rw [cdec_neg (by omega)]

theorem eqRule_self (r : RuleT) (h : smallR r) : laws_eqRule r r = some true := by
  obtain ⟨h1, h2, h3, h4⟩ := h
  unfold laws_eqRule
  rw [cbne_neg rfl, eqIntS_self _ (by omega), bind_s, cnt, eqIntS_self _ (by omega), bind_s, cnt, cbne_neg rfl, eqIntSS_same _ (by omega) (fun x hx => by have := h4 x hx; omega), bind_s, cnt]

theorem eqModel_self (m : ModT) (h : smallM m) : laws_eqModel m m = some true := by
  obtain ⟨h1, h2, h3⟩ := h
  unfold laws_eqModel
  have key : laws_eqRuleS m.2 m.2 = some true := by
    unfold laws_eqRuleS
    rw [cbne_neg rfl, loop_all m.2.length (fun _ => true) false true]
    · rw [List.all_eq_true.2 (fun _ _ => rfl)]; rfl
    · intro i hi _
      unfold laws_eqRuleS_l1
      rw [cdec_pos (by omega), rq_pos ⟨by omega, by omega⟩, rq_pos ⟨by omega, by omega⟩, Int.toNat_natCast, eqRule_self _ (h3 _ (getD_mem hi)), bind_s, cnt, rq_i64 (by omega) (by omega), ctt]
    · unfold laws_eqRuleS_l1
      rw [cdec_neg (by omega)]
  rw [eqIntS_self _ (by omega), bind_s, cnt, key, bind_s, cnt]

/-! ### Permutations -/

def sizeAt (m : ModT) (p : List Int) (i : Nat) : Bool := m.1.getD (p.getD i 0).toNat 0 == m.1.getD i 0
def permB (m : ModT) (p : List Int) : Bool := modB m && (decide (p.length = m.1.length) && (freshB p m.1.length && (List.range p.length).all (sizeAt m p)))

theorem modB_len {m : ModT} (h : modB m = true) : 1 ≤ m.1.length ∧ m.1.length ≤ 5 ∧ m.2.length ≤ 8 := by
  unfold modB at h
  simp only [Bool.and_eq_true, decide_eq_true_eq] at h
  exact ⟨h.1.1, h.1.2, h.2.1⟩

theorem freshB_in {l : List Int} {n : Int} (h : freshB l n = true) {i : Nat} (hi : i < l.length) : 0 ≤ l.getD i 0 ∧ l.getD i 0 < n := by
  unfold freshB at h
  have := List.all_eq_true.1 h i (List.mem_range.2 hi)
  unfold freshAt at this
  simp only [Bool.and_eq_true, decide_eq_true_eq] at this
  omega

end Go.AE.Y
