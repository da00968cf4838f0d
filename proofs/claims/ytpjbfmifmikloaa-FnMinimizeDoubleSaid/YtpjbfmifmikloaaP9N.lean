/-
  Plain laws: minima are invariant under scaling.
-/
import Derived.Test.YtpjbfmifmikloaaP9M
import Derived.Test.YtpjbfmifmikloaaP9D
import Derived.Test.YtpjbfmifmikloaaP12P
namespace Go.AE.Y
open Go Go.AE

theorem valZ_two (c x : List Int) (n : Nat) : valZ (c.map (fun y => 2 * y)) x n = 2 * valZ c x n := by
  induction n with
  | zero => simp [valZ]
  | succ n ih =>
    rw [valZ_succ, valZ_succ, ih]
    rcases Nat.lt_or_ge n c.length with h | h
    · rw [getD_map c (fun y => 2 * y) n 0 0 h, Int.mul_assoc]
      omega
    · have e1 : (c.map (fun y => 2 * y)).getD n 0 = 0 := by rw [List.getD_eq_getElem?_getD, List.getElem?_eq_none (by rw [List.length_map]; exact h)]; rfl
      have e2 : c.getD n 0 = 0 := by rw [List.getD_eq_getElem?_getD, List.getElem?_eq_none h]; rfl
      rw [e1, e2, Int.zero_mul]
      omega

theorem better_two (m : ModT) (c b x : List Int) : betterB m (c.map (fun y => 2 * y)) b x = betterB m c b x := by
  unfold betterB
  rw [valZ_two, valZ_two]
  have e : decide (2 * valZ c x x.length < 2 * valZ c b b.length) = decide (valZ c x x.length < valZ c b b.length) := by
    by_cases h : valZ c x x.length < valZ c b b.length
    · rw [decide_eq_true h, decide_eq_true (by omega)]
    · rw [decide_eq_false h, decide_eq_false (by omega)]
  rw [e]

theorem walk_two (m : ModT) (c : List Int) : ∀ n x b, walkF m (c.map (fun y => 2 * y)) n x b = walkF m c n x b
  | 0, x, b => better_two m c b x
  | n + 1, x, b => by
    unfold walkF
    rw [better_two, walk_two m c n]

theorem objB_four {m : ModT} {c : List Int} (h : ∀ i, i < c.length → -4 ≤ c.getD i 0 ∧ c.getD i 0 ≤ 4) : objB m (c.map (fun y => 2 * y)) = objB m c := by
  unfold objB
  rw [List.length_map]
  have all4 : ∀ y ∈ c, -4 ≤ y ∧ y ≤ 4 := fun y hy => by
    obtain ⟨j, hj, rfl⟩ := List.mem_iff_getElem.1 hy
    have := h j hj
    rwa [List.getD_eq_getElem?_getD, List.getElem?_eq_getElem hj] at this
  have e1 : c.all wtB = true := List.all_eq_true.2 (fun y hy => by
    have := all4 y hy
    unfold wtB
    simp only [Bool.and_eq_true, decide_eq_true_eq]
    omega)
  have e2 : (c.map (fun y => 2 * y)).all wtB = true := List.all_eq_true.2 (fun y hy => by
    obtain ⟨z, hz, rfl⟩ := List.mem_map.1 hy
    have := all4 z hz
    unfold wtB
    simp only [Bool.and_eq_true, decide_eq_true_eq]
    omega)
  rw [e1, e2]

theorem min_two {m : ModT} {c : List Int} (h : ∀ i, i < c.length → -4 ≤ c.getD i 0 ∧ c.getD i 0 ≤ 4) : minB' m (c.map (fun y => 2 * y)) = minB' m c := by
  unfold minB' minF
  rw [objB_four h, walk_two]

theorem spec_DrawMinimizeModel_ok {a : List Int} (h : ∀ x ∈ a, 0 ≤ x ∧ x ≤ 255) : ∃ c m, spec_DrawMinimizeModel a = some (c, m) ∧ c.length ≤ 9 ∧ okM m := by
  unfold spec_DrawMinimizeModel
  obtain ⟨r, e1, h1⟩ := open_ok h
  obtain ⟨r2, m, e2, a2, m2⟩ := spec_l6Model_ok (h1.wk (by omega))
  have h2 : RdOk r2 2000 := a2.ok h1 (by omega)
  have m2' : m.1.length ≤ 4 ∧ m.2.length ≤ 4 ∧ ∀ r ∈ m.2, okR r := m2
  obtain ⟨r3, m', e3, a3, m3⟩ := spec_l6Mutate_ok (m := m) (h2.wk (by omega)) m2'
  have h3 : RdOk r3 3000 := a3.ok h2 (by omega)
  obtain ⟨r4, c, e4, a4, m4⟩ := spec_l9Draw_ok (o1 := m'.1) m'.2 (h3.wk (by omega)) (by omega)
  rw [e1, bind_s, e2, bind_s]
  dsimp only
  rw [e3, bind_s]
  dsimp only
  rw [e4, bind_s]
  exact ⟨c, m', rfl, m4, okM_of m3⟩

theorem law_FnMinimizeDouble {a : List Int} (ha : ∀ x ∈ a, 0 ≤ x ∧ x ≤ 255) : laws_FnMinimizeDouble a = some true := by
  unfold laws_FnMinimizeDouble
  by_cases h0 : 1048576 < (a.length : Int)
  · rw [cdec_pos h0]
  rw [cdec_neg h0]
  obtain ⟨c, m, e1, hc, hm⟩ := spec_DrawMinimizeModel_ok ha
  have hs := hm.small
  have hb := minB_len m c
  rw [e1, bind_s]
  dsimp only
  rw [impl_MinimizeModel_eq m c hs (by omega), bind_s, spec_MinimizeModel_eq m c hs (by omega), bind_s, bne_self_eq_false, cff, cpInts_self _ (by omega), bind_s, cnt]
  refine loop_fn (f := laws_FnMinimizeDouble_l1 (c, m) (minB' m c)) (fun s : Int × List Int => ∃ i : Nat, s.1 = i ∧ i ≤ c.length ∧ s.2 = (c.take i).map (fun y => 2 * y) ∧ ∀ j, j < i → -4 ≤ c.getD j 0 ∧ c.getD j 0 ≤ 4) (fun s => c.length - s.1.toNat) (fun _ => true) ?_ _ ⟨0, rfl, Nat.zero_le _, rfl, fun j hj => by omega⟩
  rintro ⟨s, l⟩ ⟨i, rfl, hi, rfl, hp⟩
  dsimp only
  unfold laws_FnMinimizeDouble_l1
  dsimp only
  rcases Nat.lt_or_ge i c.length with h1 | h1
  · rw [cdec_pos (by omega), rq_pos ⟨by omega, by omega⟩, Int.toNat_natCast]
    by_cases q1 : 4 < c.getD i 0
    · right
      rw [cdec_pos q1]
    · rw [cdec_neg q1, rq_pos ⟨by omega, by omega⟩]
      by_cases q2 : c.getD i 0 < -4
      · right
        rw [cdec_pos q2]
      · left
        rw [cdec_neg q2, rq_pos ⟨by omega, by omega⟩, rq_i64 (by omega) (by omega), rq_pos (by simp [bound]; omega), rq_i64 (by omega) (by omega)]
        refine ⟨_, rfl, ⟨i + 1, by simp, by omega, by rw [take_snocD 0 h1, List.map_append]; rfl, fun j hj => ?_⟩, by (try dsimp only) <;> omega, rfl⟩
        rcases Nat.lt_or_ge j i with h3 | h3
        · exact hp j h3
        · rw [show j = i by omega]; omega
  · right
    have : i = c.length := by omega
    subst this
    unfold laws_FnMinimizeDouble_j1
    dsimp only
    rw [cdec_neg (by omega), List.take_length, impl_MinimizeModel_eq m _ hs (by rw [List.length_map]; omega), bind_s, min_two hp, beq_self_eq_true, ctt, cpInts_self _ (by omega), bind_s]
    rfl

end Go.AE.Y
