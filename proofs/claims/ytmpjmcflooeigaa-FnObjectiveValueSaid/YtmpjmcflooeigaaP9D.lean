/-
  Plain laws: objectives are linear.
-/
import Derived.Test.YtmpjmcflooeigaaP6D
import Derived.Test.YtmpjmcflooeigaaP9
namespace Go.AE.Y
open Go Go.AE

theorem spec_l9Draw_ok {r : List Int × Int} {o1 : List Int} (o2 : List RuleT) (h : RdOk r 710000000) (ho : o1.length ≤ 8) : ∃ r' l, spec_l9Draw__rsd r o1 o2 = some (r', l) ∧ Adv r r' 10 ∧ l.length ≤ 9 := by
  unfold spec_l9Draw__rsd
  have key := loop_ex (f := spec_l9Draw__rsd_l1 o1) (fun s => 0 ≤ s.1 ∧ s.1 ≤ o1.length ∧ Adv r s.2.1 s.1 ∧ (s.2.2.length : Int) ≤ s.1) (fun s => (o1.length - s.1).toNat)
    (fun o => Adv r o.1 10 ∧ o.2.length ≤ 9) ?_ ((0 : Int), r, []) ⟨Int.le_refl _, by (try dsimp only) <;> omega, Adv.refl r (Int.le_refl _), by simp⟩
  · obtain ⟨⟨r', l⟩, q1, q2⟩ := key
    exact ⟨r', l, q1, q2⟩
  rintro ⟨i, q, l⟩ ⟨g1, g2, g3, g4⟩
  dsimp only at g1 g2 g3 g4 ⊢
  have hq : RdOk q 710000008 := g3.ok h (by omega)
  unfold spec_l9Draw__rsd_l1
  dsimp only
  by_cases h1 : i < o1.length
  · left
    obtain ⟨x, q1, e1, a1, _⟩ := num_adv (l := [1, -1, 2, 0, -2, 3]) (hq.wk (by omega)) (by decide)
    rw [cdec_pos h1, e1, bind_s, rq_pos (by simp [bound]; omega), rq_i64 (by omega) (by omega)]
    exact ⟨_, rfl, ⟨by (try dsimp only) <;> omega, by (try dsimp only) <;> omega, g3.trans a1 (Int.le_refl _), by simp; omega⟩, by (try dsimp only) <;> omega⟩
  · right
    obtain ⟨x, q1, e1, a1, _⟩ := pick_adv 30 (hq.wk (show (710000008 : Int) ≤ 1000000000 by omega))
    have hq1 : RdOk q1 710000009 := a1.ok hq (by omega)
    rw [cdec_neg h1]
    unfold spec_l9Draw__rsd_j1
    dsimp only
    rw [e1, bind_s]
    dsimp only
    cases (x == 0) with
    | true =>
      rw [ctt]
      by_cases h2 : (0 : Int) < l.length
      · obtain ⟨y, q2, e2, a2, _⟩ := num_adv (l := [10, -10, 9, 9223372036854775807]) (hq1.wk (by omega)) (by simp)
        rw [cdec_pos h2, e2, bind_s, rq_pos ⟨by omega, h2⟩]
        exact ⟨_, rfl, (g3.trans a1 (Int.le_refl _)).trans a2 (by omega), by (try dsimp only) <;> (rw [List.length_set]; omega)⟩
      · rw [cdec_neg h2]
        exact ⟨_, rfl, g3.trans a1 (by omega), by (try dsimp only) <;> omega⟩
    | false =>
      rw [cff]
      cases (x == 1) with
      | true =>
        rw [ctt, rq_pos (by simp [bound]; omega)]
        exact ⟨_, rfl, g3.trans a1 (by omega), by simp; omega⟩
      | false =>
        rw [cff]
        exact ⟨_, rfl, g3.trans a1 (by omega), by (try dsimp only) <;> omega⟩

theorem spec_l6DrawCells_ok {r : List Int × Int} {o1 : List Int} (o2 : List RuleT) (h : RdOk r 720000000) (ho : o1.length ≤ 8) : ∃ r' l, spec_l6DrawCells__rsd r o1 o2 = some (r', l) ∧ Adv r r' 10 ∧ l.length ≤ 9 := by
  unfold spec_l6DrawCells__rsd
  have key := loop_ex (f := spec_l6DrawCells__rsd_l1 o1) (fun s => 0 ≤ s.1 ∧ s.1 ≤ o1.length ∧ Adv r s.2.1 s.1 ∧ (s.2.2.length : Int) ≤ s.1) (fun s => (o1.length - s.1).toNat)
    (fun o => Adv r o.1 10 ∧ o.2.length ≤ 9) ?_ ((0 : Int), r, []) ⟨Int.le_refl _, by (try dsimp only) <;> omega, Adv.refl r (Int.le_refl _), by simp⟩
  · obtain ⟨⟨r', l⟩, q1, q2⟩ := key
    exact ⟨r', l, q1, q2⟩
  rintro ⟨i, q, l⟩ ⟨g1, g2, g3, g4⟩
  dsimp only at g1 g2 g3 g4 ⊢
  have hq : RdOk q 720000008 := g3.ok h (by omega)
  unfold spec_l6DrawCells__rsd_l1
  dsimp only
  by_cases h1 : i < o1.length
  · left
    have hj : ∀ n, ∃ s', spec_l6DrawCells__rsd_j2 i q l n = some (.inl s') ∧ (s'.1 = i + 1 ∧ Adv q s'.2.1 1 ∧ s'.2.2.length = l.length + 1) := fun n => by
      unfold spec_l6DrawCells__rsd_j2
      obtain ⟨x, q1, e1, a1, _⟩ := pick_adv n (hq.wk (show (720000008 : Int) ≤ 1000000000 by omega))
      rw [e1, bind_s, rq_pos (by simp [bound]; omega), rq_i64 (by omega) (by omega)]
      exact ⟨_, rfl, rfl, a1, by simp⟩
    have hk : ∃ s', cond (decide ((w64 ((o1.getD i.toNat 0) + (1:Int))) < (1:Int))) (spec_l6DrawCells__rsd_j2 i q l (1:Int)) (cond (decide ((4:Int) < (w64 ((o1.getD i.toNat 0) + (1:Int))))) (spec_l6DrawCells__rsd_j2 i q l (1:Int)) (spec_l6DrawCells__rsd_j2 i q l (w64 ((o1.getD i.toNat 0) + (1:Int))))) = some (.inl s') ∧ (s'.1 = i + 1 ∧ Adv q s'.2.1 1 ∧ s'.2.2.length = l.length + 1) := by
      cases decide ((w64 ((o1.getD i.toNat 0) + (1:Int))) < (1:Int)) with
      | true => rw [ctt]; exact hj _
      | false =>
        rw [cff]
        cases decide ((4:Int) < (w64 ((o1.getD i.toNat 0) + (1:Int)))) with
        | true => rw [ctt]; exact hj _
        | false => rw [cff]; exact hj _
    obtain ⟨⟨i', q', l'⟩, e1, k1, k2, k3⟩ := hk
    dsimp only at k1 k2 k3
    rw [cdec_pos h1, rq_pos ⟨g1, h1⟩, e1]
    exact ⟨_, rfl, ⟨by (try dsimp only) <;> omega, by (try dsimp only) <;> omega, g3.trans k2 (by (try dsimp only) <;> omega), by (try dsimp only) <;> omega⟩, by (try dsimp only) <;> omega⟩
  · right
    obtain ⟨x, q1, e1, a1, _⟩ := pick_adv 40 (hq.wk (show (720000008 : Int) ≤ 1000000000 by omega))
    have hq1 : RdOk q1 720000009 := a1.ok hq (by omega)
    rw [cdec_neg h1]
    unfold spec_l6DrawCells__rsd_j1
    dsimp only
    rw [e1, bind_s]
    dsimp only
    cases (x == 0) with
    | true =>
      rw [ctt, rq_pos (by simp [bound]; omega)]
      exact ⟨_, rfl, g3.trans a1 (by omega), by simp; omega⟩
    | false =>
      rw [cff]
      cases (x == 1) with
      | true =>
        rw [ctt]
        by_cases h2 : (0 : Int) < l.length
        · obtain ⟨y, q2, e2, a2, _⟩ := num_adv (l := [-1, 4, 9223372036854775807]) (hq1.wk (by omega)) (by simp)
          rw [cdec_pos h2, e2, bind_s, rq_pos ⟨by omega, h2⟩]
          exact ⟨_, rfl, (g3.trans a1 (Int.le_refl _)).trans a2 (by omega), by (try dsimp only) <;> (rw [List.length_set]; omega)⟩
        · rw [cdec_neg h2]
          exact ⟨_, rfl, g3.trans a1 (by omega), by (try dsimp only) <;> omega⟩
      | false =>
        rw [cff]
        exact ⟨_, rfl, g3.trans a1 (by omega), by (try dsimp only) <;> omega⟩

theorem okM_of {m : ModT} (h : m.1.length ≤ 6 ∧ m.2.length ≤ 4 ∧ ∀ r ∈ m.2, okR r) : okM m := ⟨by have := h.1; omega, by have := h.2.1; omega, h.2.2⟩

theorem spec_DrawObjectiveValue_ok {a : List Int} (h : ∀ x ∈ a, 0 ≤ x ∧ x ≤ 255) : ∃ c x m, spec_DrawObjectiveValue a = some (c, x, m) ∧ c.length ≤ 9 ∧ x.length ≤ 9 ∧ okM m := by
  unfold spec_DrawObjectiveValue
  obtain ⟨r, e1, h1⟩ := open_ok h
  obtain ⟨r2, m, e2, a2, m2⟩ := spec_l6Model_ok (h1.wk (by omega))
  have h2 : RdOk r2 2000 := a2.ok h1 (by omega)
  have m2' : m.1.length ≤ 4 ∧ m.2.length ≤ 4 ∧ ∀ r ∈ m.2, okR r := m2
  obtain ⟨r3, m', e3, a3, m3⟩ := spec_l6Mutate_ok (m := m) (h2.wk (by omega)) m2'
  have h3 : RdOk r3 3000 := a3.ok h2 (by omega)
  obtain ⟨r4, c, e4, a4, m4⟩ := spec_l9Draw_ok (o1 := m'.1) m'.2 (h3.wk (by omega)) (by omega)
  have h4 : RdOk r4 4000 := a4.ok h3 (by omega)
  obtain ⟨r5, x, e5, a5, m5⟩ := spec_l6DrawCells_ok (o1 := m'.1) m'.2 (h4.wk (by omega)) (by omega)
  rw [e1, bind_s, e2, bind_s]
  dsimp only
  rw [e3, bind_s]
  dsimp only
  rw [e4, bind_s]
  dsimp only
  rw [e5, bind_s]
  exact ⟨c, x, m', rfl, m4, m5, okM_of m3⟩

/-! ### Objectives are linear -/

theorem valZ_neg (c x : List Int) (n : Nat) : valZ (c.map (fun y => 0 - y)) x n = 0 - valZ c x n := by
  induction n with
  | zero => simp [valZ]
  | succ n ih =>
    rw [valZ_succ, valZ_succ, ih]
    rcases Nat.lt_or_ge n c.length with h | h
    · rw [getD_map c (fun y => 0 - y) n 0 0 h]
      rw [Int.sub_mul]
      omega
    · have e1 : (c.map (fun y => 0 - y)).getD n 0 = 0 := by rw [List.getD_eq_getElem?_getD, List.getElem?_eq_none (by rw [List.length_map]; exact h)]; rfl
      have e2 : c.getD n 0 = 0 := by rw [List.getD_eq_getElem?_getD, List.getElem?_eq_none h]; rfl
      rw [e1, e2, Int.zero_mul]
      omega

theorem valZ_zero (c : List Int) (k n : Nat) : valZ c (List.replicate k 0) n = 0 := by
  induction n with
  | zero => rfl
  | succ n ih =>
    rw [valZ_succ, ih]
    have : (List.replicate k (0 : Int)).getD n 0 = 0 := by
      rw [List.getD_eq_getElem?_getD]
      rcases Nat.lt_or_ge n k with h | h
      · rw [List.getElem?_replicate_of_lt h]; rfl
      · rw [List.getElem?_eq_none (by rw [List.length_replicate]; exact h)]; rfl
    rw [this]
    simp

theorem objB_neg {m : ModT} {c : List Int} (h : objB m c = true) : objB m (c.map (fun y => 0 - y)) = true := by
  unfold objB at h ⊢
  simp only [Bool.and_eq_true, decide_eq_true_eq, List.all_eq_true] at h ⊢
  refine ⟨by rw [List.length_map]; exact h.1, fun y hy => ?_⟩
  obtain ⟨z, hz, rfl⟩ := List.mem_map.1 hy
  have := h.2 z hz
  unfold wtB at this ⊢
  simp only [Bool.and_eq_true, decide_eq_true_eq] at this ⊢
  omega

theorem cellsB_zero {m : ModT} (hm : modB m = true) : cellsB m (List.replicate m.1.length 0) = true := by
  unfold cellsB
  simp only [Bool.and_eq_true, decide_eq_true_eq, List.all_eq_true]
  refine ⟨List.length_replicate, fun i hi => ?_⟩
  have hi : i < m.1.length := by have := List.mem_range.1 hi; rwa [List.length_replicate] at this
  unfold modB at hm
  simp only [Bool.and_eq_true, decide_eq_true_eq, List.all_eq_true] at hm
  have h2 := hm.2.2.1 _ (getD_mem (l := m.1) (i := i) (d := 0) hi)
  unfold cellB at h2
  unfold cellAt
  rw [List.getD_eq_getElem?_getD, List.getElem?_replicate_of_lt hi]
  simp only [Bool.and_eq_true, decide_eq_true_eq, Option.getD_some] at h2 ⊢
  omega

theorem law_FnObjectiveValue {a : List Int} (ha : ∀ x ∈ a, 0 ≤ x ∧ x ≤ 255) : laws_FnObjectiveValue a = some true := by
  unfold laws_FnObjectiveValue
  by_cases h0 : 1048576 < (a.length : Int)
  · rw [cdec_pos h0]
  rw [cdec_neg h0]
  obtain ⟨c, x, m, e1, hc, hx, hm⟩ := spec_DrawObjectiveValue_ok ha
  have hs := hm.small
  rw [e1, bind_s]
  dsimp only
  rw [impl_ObjectiveValue_eq m c x hs (by omega) (by omega), bind_s, spec_ObjectiveValue_eq m c x hs (by omega) (by omega), bind_s]
  rw [bne_self_eq_false, cff, bne_self_eq_false, cff]
  cases hv : (objV m c x).2 with
  | false => rw [cnf, beq_self_eq_true, ctt, beq_self_eq_true]
  | true =>
    rw [cnt]
    unfold objV at hv ⊢
    cases hq : modB m && (objB m c && cellsB m x) with
    | false => rw [hq, cff] at hv; cases hv
    | true =>
      rw [ctt]
      simp only [Bool.and_eq_true] at hq
      obtain ⟨q1, q2, q3⟩ := hq
      obtain ⟨b1, b2, b3, b4⟩ := term_bound q1 q2 q3
      have vb := valZ_bound (c := c) (x := x) (n := x.length) (by omega) b4
      refine loop_fn (f := laws_FnObjectiveValue_l1 (c, x, m) (valZ c x x.length, true)) (fun s : Int × List Int => ∃ i : Nat, s.1 = i ∧ i ≤ c.length ∧ s.2 = (c.take i).map (fun y => 0 - y)) (fun s => c.length - s.1.toNat) (fun _ => true) ?_ _ ⟨0, rfl, Nat.zero_le _, rfl⟩
      rintro ⟨a, s⟩ ⟨i, rfl, hi, rfl⟩
      dsimp only
      unfold laws_FnObjectiveValue_l1
      dsimp only
      rcases Nat.lt_or_ge i c.length with h1 | h1
      · left
        have hw : -9 ≤ c.getD i 0 ∧ c.getD i 0 ≤ 9 := by
          unfold objB at q2
          simp only [Bool.and_eq_true, decide_eq_true_eq, List.all_eq_true] at q2
          have := q2.2 _ (getD_mem (l := c) (i := i) (d := 0) h1)
          unfold wtB at this
          simpa using this
        rw [cdec_pos (by omega), rq_pos ⟨by omega, by omega⟩, Int.toNat_natCast, rq_i64 (by omega) (by omega), rq_pos (by simp [bound]; omega), rq_i64 (by omega) (by omega)]
        exact ⟨_, rfl, ⟨i + 1, by simp, by omega, by rw [take_snocD 0 h1, List.map_append]; rfl⟩, by (try dsimp only) <;> omega, rfl⟩
      · right
        have : i = c.length := by omega
        subst this
        rw [cdec_neg (by omega), List.take_length]
        unfold laws_FnObjectiveValue_j1
        dsimp only
        have hr : (List.replicate (x.length : Int).toNat (0 : Int)) = List.replicate m.1.length 0 := by rw [Int.toNat_natCast, b1]
        rw [hr, impl_ObjectiveValue_eq m _ x hs (by rw [List.length_map]; omega) (by omega), bind_s, rq_pos ⟨by omega, by simp only [bound]; omega, rfl⟩,
          impl_ObjectiveValue_eq m c _ hs (by omega) (by rw [List.length_replicate]; omega), bind_s]
        unfold objV
        rw [q1, q2, q3, objB_neg q2, cellsB_zero q1]
        simp only [Bool.and_self, cond_true]
        unfold laws_FnObjectiveValue_j2
        dsimp only
        rw [ctt, ctt, rq_i64 (by omega) (by omega), valZ_neg, cbeq_pos rfl, valZ_zero]
        rfl

end Go.AE.Y
