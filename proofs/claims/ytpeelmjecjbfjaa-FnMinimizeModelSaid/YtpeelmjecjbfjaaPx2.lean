/-
  Plain laws of the models, in one text. No conditions.
-/
import Derived.Test.YtpeelmjecjbfjaaPx1
namespace Go.AE.Y
open Go Go.AE

theorem spec_l9Draw_ok {r : List Int × Int} {o1 : List Int} (o2 : List RuleT) (h : RdOk r 710000000) (ho : o1.length ≤ 8) : ∃ r' l, spec_l9Draw__rsd r o1 o2 = some (r', l) ∧ Adv r r' 10 ∧ l.length ≤ 9 := by
  unfold spec_l9Draw__rsd
  have key := loop_ex (f := spec_l9Draw__rsd_l1 o1) (fun s => 0 ≤ s.1 ∧ s.1 ≤ o1.length ∧ Adv r s.2.1 s.1 ∧ (s.2.2.length : Int) ≤ s.1) (fun s => (o1.length - s.1).toNat)
    (fun o => Adv r o.1 10 ∧ o.2.length ≤ 9) ?_ ((0 : Int), r, []) ⟨Int.le_refl _, by (try dsimp only) <;> omega, Adv.refl r (Int.le_refl _), by simp⟩
  · obtain ⟨⟨r', l⟩, q1, q2⟩ := key
    exact ⟨r', l, q1, q2⟩
  rintro ⟨i, q, l⟩ ⟨g1, g2, g3, g4⟩
  dsimp only at g1 g2 g3 g4 ⊢
  have hq : RdOk q 710000008 := g3.ok h (by omega)
  unfold spec_l9Draw__rsd_l1
  dsimp only
  by_cases h1 : i < o1.length
  · left
    obtain ⟨x, q1, e1, a1, _⟩ := num_adv (l := [1, -1, 2, 0, -2, 3]) (hq.wk (by omega)) (by decide)
    rw [cdec_pos h1, e1, bind_s, rq_pos (by simp [bound]; omega), rq_i64 (by omega) (by omega)]
    exact ⟨_, rfl, ⟨by (try dsimp only) <;> omega, by (try dsimp only) <;> omega, g3.trans a1 (Int.le_refl _), by simp; omega⟩, by (try dsimp only) <;> omega⟩
  · right
    obtain ⟨x, q1, e1, a1, _⟩ := pick_adv 30 (hq.wk (show (710000008 : Int) ≤ 1000000000 by omega))
    have hq1 : RdOk q1 710000009 := a1.ok hq (by omega)
    rw [cdec_neg h1]
    unfold spec_l9Draw__rsd_j1
    dsimp only
    rw [e1, bind_s]
    dsimp only
    cases (x == 0) with
    | true =>
      rw [ctt]
      by_cases h2 : (0 : Int) < l.length
      · obtain ⟨y, q2, e2, a2, _⟩ := num_adv (l := [10, -10, 9, 9223372036854775807]) (hq1.wk (by omega)) (by simp)
        rw [cdec_pos h2, e2, bind_s, rq_pos ⟨by omega, h2⟩]
        exact ⟨_, rfl, (g3.trans a1 (Int.le_refl _)).trans a2 (by omega), by (try dsimp only) <;> (rw [List.length_set]; omega)⟩
      · rw [cdec_neg h2]
        exact ⟨_, rfl, g3.trans a1 (by omega), by (try dsimp only) <;> omega⟩
    | false =>
      rw [cff]
      cases (x == 1) with
      | true =>
        rw [ctt, rq_pos (by simp [bound]; omega)]
        exact ⟨_, rfl, g3.trans a1 (by omega), by simp; omega⟩
      | false =>
        rw [cff]
        exact ⟨_, rfl, g3.trans a1 (by omega), by (try dsimp only) <;> omega⟩

theorem okM_of {m : ModT} (h : m.1.length ≤ 6 ∧ m.2.length ≤ 4 ∧ ∀ r ∈ m.2, okR r) : okM m := ⟨by have := h.1; omega, by have := h.2.1; omega, h.2.2⟩

/-! ### Objectives are linear -/

theorem valZ_neg (c x : List Int) (n : Nat) : valZ (c.map (fun y => 0 - y)) x n = 0 - valZ c x n := by
  induction n with
  | zero => simp [valZ]
  | succ n ih =>
    rw [valZ_succ, valZ_succ, ih]
    rcases Nat.lt_or_ge n c.length with h | h
    · rw [getD_map c (fun y => 0 - y) n 0 0 h]
      rw [Int.sub_mul]
      omega
    · have e1 : (c.map (fun y => 0 - y)).getD n 0 = 0 := by rw [List.getD_eq_getElem?_getD, List.getElem?_eq_none (by rw [List.length_map]; exact h)]; rfl
      have e2 : c.getD n 0 = 0 := by rw [List.getD_eq_getElem?_getD, List.getElem?_eq_none h]; rfl
      rw [e1, e2, Int.zero_mul]
      omega

theorem valZ_zero (c : List Int) (k n : Nat) : valZ c (List.replicate k 0) n = 0 := by
  induction n with
  | zero => rfl
  | succ n ih =>
    rw [valZ_succ, ih]
    have : (List.replicate k (0 : Int)).getD n 0 = 0 := by
      rw [List.getD_eq_getElem?_getD]
      rcases Nat.lt_or_ge n k with h | h
      · rw [List.getElem?_replicate_of_lt h]; rfl
      · rw [List.getElem?_eq_none (by rw [List.length_replicate]; exact h)]; rfl
    rw [this]
    simp

theorem objB_neg {m : ModT} {c : List Int} (h : objB m c = true) : objB m (c.map (fun y => 0 - y)) = true := by
  unfold objB at h ⊢
  simp only [Bool.and_eq_true, decide_eq_true_eq, List.all_eq_true] at h ⊢
  refine ⟨by rw [List.length_map]; exact h.1, fun y hy => ?_⟩
  obtain ⟨z, hz, rfl⟩ := List.mem_map.1 hy
  have := h.2 z hz
  unfold wtB at this ⊢
  simp only [Bool.and_eq_true, decide_eq_true_eq] at this ⊢
  omega

theorem cellsB_zero {m : ModT} (hm : modB m = true) : cellsB m (List.replicate m.1.length 0) = true := by
  unfold cellsB
  simp only [Bool.and_eq_true, decide_eq_true_eq, List.all_eq_true]
  refine ⟨List.length_replicate, fun i hi => ?_⟩
  have hi : i < m.1.length := by have := List.mem_range.1 hi; rwa [List.length_replicate] at this
  unfold modB at hm
  simp only [Bool.and_eq_true, decide_eq_true_eq, List.all_eq_true] at hm
  have h2 := hm.2.2.1 _ (getD_mem (l := m.1) (i := i) (d := 0) hi)
  unfold cellB at h2
  unfold cellAt
  rw [List.getD_eq_getElem?_getD, List.getElem?_replicate_of_lt hi]
  simp only [Bool.and_eq_true, decide_eq_true_eq, Option.getD_some] at h2 ⊢
  omega

end Go.AE.Y
namespace Go.AE.Y
open Go Go.AE

theorem valZ_two (c x : List Int) (n : Nat) : valZ (c.map (fun y => 2 * y)) x n = 2 * valZ c x n := by
  induction n with
  | zero => simp [valZ]
  | succ n ih =>
    rw [valZ_succ, valZ_succ, ih]
    rcases Nat.lt_or_ge n c.length with h | h
    · rw [getD_map c (fun y => 2 * y) n 0 0 h, Int.mul_assoc]
      omega
    · have e1 : (c.map (fun y => 2 * y)).getD n 0 = 0 := by rw [List.getD_eq_getElem?_getD, List.getElem?_eq_none (by rw [List.length_map]; exact h)]; rfl
      have e2 : c.getD n 0 = 0 := by rw [List.getD_eq_getElem?_getD, List.getElem?_eq_none h]; rfl
      rw [e1, e2, Int.zero_mul]
      omega

theorem better_two (m : ModT) (c b x : List Int) : betterB m (c.map (fun y => 2 * y)) b x = betterB m c b x := by
  unfold betterB
  rw [valZ_two, valZ_two]
  have e : decide (2 * valZ c x x.length < 2 * valZ c b b.length) = decide (valZ c x x.length < valZ c b b.length) := by
    by_cases h : valZ c x x.length < valZ c b b.length
    · rw [decide_eq_true h, decide_eq_true (by omega)]
    · rw [decide_eq_false h, decide_eq_false (by omega)]
  rw [e]

theorem walk_two (m : ModT) (c : List Int) : ∀ n x b, walkF m (c.map (fun y => 2 * y)) n x b = walkF m c n x b
  | 0, x, b => better_two m c b x
  | n + 1, x, b => by
    unfold walkF
    rw [better_two, walk_two m c n]

theorem objB_four {m : ModT} {c : List Int} (h : ∀ i, i < c.length → -4 ≤ c.getD i 0 ∧ c.getD i 0 ≤ 4) : objB m (c.map (fun y => 2 * y)) = objB m c := by
  unfold objB
  rw [List.length_map]
  have all4 : ∀ y ∈ c, -4 ≤ y ∧ y ≤ 4 := fun y hy => by
    obtain ⟨j, hj, rfl⟩ := List.mem_iff_getElem.1 hy
    have := h j hj
    rwa [List.getD_eq_getElem?_getD, List.getElem?_eq_getElem hj] at this
  have e1 : c.all wtB = true := List.all_eq_true.2 (fun y hy => by
    have := all4 y hy
    unfold wtB
    simp only [Bool.and_eq_true, decide_eq_true_eq]
    omega)
  have e2 : (c.map (fun y => 2 * y)).all wtB = true := List.all_eq_true.2 (fun y hy => by
    obtain ⟨z, hz, rfl⟩ := List.mem_map.1 hy
    have := all4 z hz
    unfold wtB
    simp only [Bool.and_eq_true, decide_eq_true_eq]
    omega)
  rw [e1, e2]

theorem min_two {m : ModT} {c : List Int} (h : ∀ i, i < c.length → -4 ≤ c.getD i 0 ∧ c.getD i 0 ≤ 4) : minB' m (c.map (fun y => 2 * y)) = minB' m c := by
  unfold minB' minF
  rw [objB_four h, walk_two]

theorem spec_DrawMinimizeModel_ok {a : List Int} (h : ∀ x ∈ a, 0 ≤ x ∧ x ≤ 255) : ∃ c m, spec_DrawMinimizeModel a = some (c, m) ∧ c.length ≤ 9 ∧ okM m := by
  unfold spec_DrawMinimizeModel
  obtain ⟨r, e1, h1⟩ := open_ok h
  obtain ⟨r2, m, e2, a2, m2⟩ := spec_l6Model_ok (h1.wk (by omega))
  have h2 : RdOk r2 2000 := a2.ok h1 (by omega)
  have m2' : m.1.length ≤ 4 ∧ m.2.length ≤ 4 ∧ ∀ r ∈ m.2, okR r := m2
  obtain ⟨r3, m', e3, a3, m3⟩ := spec_l6Mutate_ok (m := m) (h2.wk (by omega)) m2'
  have h3 : RdOk r3 3000 := a3.ok h2 (by omega)
  obtain ⟨r4, c, e4, a4, m4⟩ := spec_l9Draw_ok (o1 := m'.1) m'.2 (h3.wk (by omega)) (by omega)
  rw [e1, bind_s, e2, bind_s]
  dsimp only
  rw [e3, bind_s]
  dsimp only
  rw [e4, bind_s]
  exact ⟨c, m', rfl, m4, okM_of m3⟩

end Go.AE.Y
namespace Go.AE.Y
open Go Go.AE

theorem cpLess_eq {n : Nat} {a b : List Int} (hn : n ≤ 1000000) (ha : a.length = n) (hb : b.length = n) (h : ¬ LtL n a b) : laws_cpLess a b = some false := by
  unfold laws_cpLess
  refine loop_fn (f := laws_cpLess_l1 a b) (fun s : Int => ∃ i : Nat, s = i ∧ i ≤ n ∧ ∀ j, j < i → a.getD j 0 = b.getD j 0) (fun s => n - s.toNat) (fun _ => false) ?_ _ ⟨0, rfl, Nat.zero_le _, fun j hj => by omega⟩
  rintro s ⟨i, rfl, hi, he⟩
  unfold laws_cpLess_l1
  rcases Nat.lt_or_ge i n with h1 | h1
  · rw [cdec_pos (by omega), cdec_pos (by omega), rq_pos ⟨by omega, by omega⟩, rq_pos ⟨by omega, by omega⟩, Int.toNat_natCast]
    by_cases q : a.getD i 0 = b.getD i 0
    · left
      rw [q, bne_self_eq_false, cff, rq_i64 (by omega) (by omega)]
      refine ⟨_, rfl, ⟨i + 1, by simp, by omega, fun j hj => ?_⟩, by omega, rfl⟩
      rcases Nat.lt_or_ge j i with h2 | h2
      · exact he j h2
      · rw [show j = i by omega]; exact q
    · right
      have : ¬ a.getD i 0 < b.getD i 0 := fun hlt => h ⟨i, h1, hlt, he⟩
      rw [show (a.getD i 0 != b.getD i 0) = true by rw [bne_iff_ne]; exact q, ctt, rq_pos ⟨by omega, by omega⟩, rq_pos ⟨by omega, by omega⟩, decide_eq_false this]
  · right
    rw [cdec_neg (by omega)]

theorem walk_fold {m : ModT} {c : List Int} : ∀ n x b, walkF m c n x b = (seqF m n x).foldl (betterB m c) b
  | 0, x, b => rfl
  | n + 1, x, b => by
    unfold walkF seqF
    rw [List.foldl_cons]
    cases (nextF m x).1 with
    | true => rw [ctt, ctt, walk_fold n]
    | false => rfl

/-- What a search over cells in their order finds. -/
theorem fold_min {m : ModT} {c : List Int} {k : Nat} : ∀ (L : List (List Int)) (b : List Int), L.Pairwise (LtL k) → (∀ z ∈ L, z ≠ []) → (b = [] ∨ ∀ z ∈ L, LtL k b z) →
    (b ≠ [] → L.foldl (betterB m c) b ≠ [] ∧ (valZ c (L.foldl (betterB m c) b) (L.foldl (betterB m c) b).length < valZ c b b.length ∨ L.foldl (betterB m c) b = b)) ∧
    (∀ y ∈ L, solvesB m y = true → L.foldl (betterB m c) b ≠ [] ∧ (valZ c (L.foldl (betterB m c) b) (L.foldl (betterB m c) b).length < valZ c y y.length ∨ (valZ c (L.foldl (betterB m c) b) (L.foldl (betterB m c) b).length = valZ c y y.length ∧ (L.foldl (betterB m c) b = y ∨ LtL k (L.foldl (betterB m c) b) y)))) ∧
    (L.foldl (betterB m c) b = b ∨ (L.foldl (betterB m c) b ∈ L ∧ solvesB m (L.foldl (betterB m c) b) = true))
  | [], b, _, _, _ => ⟨fun h => ⟨h, Or.inr rfl⟩, fun y hy _ => absurd hy List.not_mem_nil, Or.inl rfl⟩
  | x :: L, b, hp, hne, hb => by
    rw [List.foldl_cons]
    obtain ⟨p1, p2⟩ := List.pairwise_cons.1 hp
    have hxne := hne x List.mem_cons_self
    have hne' : ∀ z ∈ L, z ≠ [] := fun z hz => hne z (List.mem_cons_of_mem _ hz)
    cases hs : solvesB m x && (b.isEmpty || decide (valZ c x x.length < valZ c b b.length)) with
    | true =>
      have e : betterB m c b x = x := by unfold betterB; rw [hs, ctt]
      rw [e]
      rw [Bool.and_eq_true, Bool.or_eq_true, decide_eq_true_eq] at hs
      obtain ⟨i1, i2, i3⟩ := fold_min (m := m) (c := c) L x p2 hne' (Or.inr p1)
      obtain ⟨j1, j2⟩ := i1 hxne
      refine ⟨fun hbn => ⟨j1, ?_⟩, fun y hy hsy => ?_, ?_⟩
      · rcases hs.2 with h1 | h1
        · exact absurd (List.isEmpty_iff.1 h1) hbn
        · left
          rcases j2 with j2 | j2
          · omega
          · rw [j2]; exact h1
      · rcases List.mem_cons.1 hy with rfl | hy
        · refine ⟨j1, ?_⟩
          rcases j2 with j2 | j2
          · exact Or.inl j2
          · exact Or.inr ⟨by rw [j2], Or.inl j2⟩
        · exact i2 y hy hsy
      · right
        rcases i3 with i3 | ⟨i3, i4⟩
        · rw [i3]; exact ⟨List.mem_cons_self, hs.1⟩
        · exact ⟨List.mem_cons_of_mem _ i3, i4⟩
    | false =>
      have e : betterB m c b x = b := by unfold betterB; rw [hs, cff]
      rw [e]
      have hb' : b = [] ∨ ∀ z ∈ L, LtL k b z := hb.imp id (fun h z hz => h z (List.mem_cons_of_mem _ hz))
      obtain ⟨i1, i2, i3⟩ := fold_min (m := m) (c := c) L b p2 hne' hb'
      refine ⟨i1, fun y hy hsy => ?_, i3.imp id (fun h => ⟨List.mem_cons_of_mem _ h.1, h.2⟩)⟩
      rcases List.mem_cons.1 hy with rfl | hy
      · rw [hsy, Bool.true_and, Bool.or_eq_false_iff, decide_eq_false_iff_not] at hs
        have hbn : b ≠ [] := fun h => by rw [h] at hs; exact absurd hs.1 (by decide)
        have hlt : LtL k b y := by
          rcases hb with h | h
          · exact absurd h hbn
          · exact h y List.mem_cons_self
        obtain ⟨j1, j2⟩ := i1 hbn
        refine ⟨j1, ?_⟩
        rcases j2 with j2 | j2
        · left; omega
        · rw [j2]
          by_cases q : valZ c b b.length < valZ c y y.length
          · exact Or.inl q
          · exact Or.inr ⟨by omega, Or.inr hlt⟩
      · exact i2 y hy hsy

theorem min_best {m : ModT} {c : List Int} (hm : modB m = true) : (∀ y, cellsB m y = true → solvesB m y = true → minF m c ≠ [] ∧ (valZ c (minF m c) (minF m c).length < valZ c y y.length ∨ (valZ c (minF m c) (minF m c).length = valZ c y y.length ∧ (minF m c = y ∨ LtL m.1.length (minF m c) y)))) ∧ (minF m c = [] ∨ (cellsB m (minF m c) = true ∧ solvesB m (minF m c) = true)) := by
  have hz := zero_cells hm
  have e : minF m c = (allF m (zeroF m)).foldl (betterB m c) [] := by unfold minF allF zeroF; exact walk_fold 1024 _ _
  rw [e]
  obtain ⟨_, i2, i3⟩ := fold_min (m := m) (c := c) (allF m (zeroF m)) [] (seq_sorted 1024 _ hz) (fun z hzz => cells_ne hm (all_ok hz hzz)) (Or.inl rfl)
  refine ⟨fun y hy hs => i2 y ((mem_all hm).2 hy) hs, ?_⟩
  rcases i3 with h | ⟨h1, h2⟩
  · exact Or.inl h
  · exact Or.inr ⟨(mem_all hm).1 h1, h2⟩

theorem impl_SolvesModel_eq (m : ModT) (x : List Int) (h : smallM m) (hx : x.length ≤ 1048576) : impl_SolvesModel m x = some (modB m && cellsB m x && solvesB m x) := by
  unfold impl_SolvesModel
  rw [impl_CellsValid_eq m x h hx, bind_s]
  cases hv : modB m && cellsB m x with
  | false => rw [cff, Bool.false_and]
  | true =>
    rw [Bool.and_eq_true] at hv
    rw [ctt, impl_solves_eq h hv.1 hv.2, bind_s, Bool.true_and]

theorem law_FnMinimizeModel {a : List Int} (ha : ∀ x ∈ a, 0 ≤ x ∧ x ≤ 255) : laws_FnMinimizeModel a = some true := by
  unfold laws_FnMinimizeModel
  by_cases h0 : 1048576 < (a.length : Int)
  · rw [cdec_pos h0]
  rw [cdec_neg h0]
  obtain ⟨c, m, e1, hc, hm0⟩ := spec_DrawMinimizeModel_ok ha
  have hs := hm0.small
  have hb := minB_len m c
  rw [e1, bind_s]
  dsimp only
  rw [impl_MinimizeModel_eq m c hs (by omega), bind_s, spec_MinimizeModel_eq m c hs (by omega), bind_s, bne_self_eq_false, cff, cpInts_self _ (by omega), bind_s, cnt]
  cases hq : modB m && objB m c with
  | false =>
    have e : minB' m c = (false, []) := by unfold minB'; rw [hq, cff]
    rw [e]
    rfl
  | true =>
    have e : minB' m c = (!(minF m c).isEmpty, minF m c) := by unfold minB'; rw [hq, ctt]
    rw [e] at hb ⊢
    dsimp only at hb ⊢
    rw [Bool.and_eq_true] at hq
    obtain ⟨hm, ho⟩ := hq
    obtain ⟨b1, b2⟩ := min_best (m := m) (c := c) hm
    rcases b2 with b2 | ⟨b2, b3⟩
    · rw [b2]
      rfl
    · have hbe : (minF m c).isEmpty = false := by
        have := cells_ne hm b2
        cases h : minF m c with
        | nil => exact absurd h this
        | cons y z => rfl
      obtain ⟨m1, m2, m3⟩ := modB_len hm
      have hz := zero_cells hm
      rw [hbe, Bool.not_false, cnt, impl_ObjectiveValue_eq m c _ hs (by omega) hb, bind_s, rq_pos ⟨by omega, by simp only [bound]; omega, rfl⟩, Int.toNat_natCast, impl_NextModel_eq m _ hs (by rw [List.length_replicate]; omega), bind_s]
      have ev : ∀ y, cellsB m y = true → objV m c y = (valZ c y y.length, true) := fun y hy => by unfold objV; rw [hm, ho, hy, Bool.true_and, Bool.true_and, ctt]
      rw [ev _ b2]
      refine loop_fn (f := laws_FnMinimizeModel_l1 (c, m) (true, minF m c) (valZ c (minF m c) (minF m c).length, true)) (fun s : Bool × List Int => s.1 = true → cellsB m s.2 = true ∧ solvesB m s.2 = true) (fun s => bif s.1 then muF s.2 + 1 else 0) (fun _ => true) ?_ _ (fun h => ⟨(nextV_ok hm hz h).1, (nextV_ok hm hz h).2.1⟩)
      rintro ⟨more, y⟩ hinv
      dsimp only at hinv ⊢
      unfold laws_FnMinimizeModel_l1
      dsimp only
      cases more with
      | false =>
        right
        rw [cff]
        unfold laws_FnMinimizeModel_j1
        dsimp only
        rw [ctt, impl_SolvesModel_eq m _ hs hb, bind_s, hm, b2, b3]
        rfl
      | true =>
        left
        obtain ⟨hy, hsy⟩ := hinv rfl
        obtain ⟨_, b4⟩ := b1 y hy hsy
        have j2 : laws_FnMinimizeModel_j2 (c, m) y () = some (.inl ((afterV m y).1, (afterV m y).2)) := by
          unfold laws_FnMinimizeModel_j2
          dsimp only
          rw [cpAfter_eq hs hm hy, bind_s]
        refine ⟨((afterV m y).1, (afterV m y).2), ?_, fun h => ⟨(afterV_ok hm hy h).1, (afterV_ok hm hy h).2.1⟩, ?_, rfl⟩
        · rw [ctt, impl_ObjectiveValue_eq m c _ hs (by omega) (by have := (cells_dig hy).1; omega), bind_s, ev _ hy]
          dsimp only
          rw [cnt, cdec_neg (by omega)]
          by_cases q : valZ c y y.length = valZ c (minF m c) (minF m c).length
          · rw [cbeq_pos q]
            have hnl : ¬ LtL m.1.length y (minF m c) := by
              rcases b4 with b4 | ⟨_, b4 | b4⟩
              · omega
              · rw [← b4]; exact LtL.irrefl
              · exact b4.asymm
            rw [cpLess_eq (n := m.1.length) (by omega) (cells_dig hy).1 (cells_dig b2).1 hnl, bind_s, cff, j2]
          · rw [cbeq_neg q, j2]
        · dsimp only
          rw [ctt]
          cases hq : (afterV m y).1 with
          | false => rw [cff]; omega
          | true => rw [ctt]; have := (afterV_ok hm hy hq).2.2; omega

end Go.AE.Y
