/-
  Plain laws of the models, in one text. No conditions.
-/
import Derived.Test.YtpeelmjecjbfjaaPx1
namespace Go.AE.Y
open Go Go.AE

theorem spec_l9Draw_ok {r : List Int × Int} {o1 : List Int} (o2 : List RuleT) (h : RdOk r 710000000) (ho : o1.length ≤ 8) : ∃ r' l, spec_l9Draw__rsd r o1 o2 = some (r', l) ∧ Adv r r' 10 ∧ l.length ≤ 9 := by
  unfold spec_l9Draw__rsd
  have key := loop_ex (f := spec_l9Draw__rsd_l1 o1) (fun s => 0 ≤ s.1 ∧ s.1 ≤ o1.length ∧ Adv r s.2.1 s.1 ∧ (s.2.2.length : Int) ≤ s.1) (fun s => (o1.length - s.1).toNat)
    (fun o => Adv r o.1 10 ∧ o.2.length ≤ 9) ?_ ((0 : Int), r, []) ⟨Int.le_refl _, by (try dsimp only) <;> omega, Adv.refl r (Int.le_refl _), by simp⟩
  · obtain ⟨⟨r', l⟩, q1, q2⟩ := key
    exact ⟨r', l, q1, q2⟩
  rintro ⟨i, q, l⟩ ⟨g1, g2, g3, g4⟩
  dsimp only at g1 g2 g3 g4 ⊢
  have hq : RdOk q 710000008 := g3.ok h (by omega)
  unfold spec_l9Draw__rsd_l1
  dsimp only
  by_cases h1 : i < o1.length
  · left
    obtain ⟨x, q1, e1, a1, _⟩ := num_adv (l := [1, -1, 2, 0, -2, 3]) (hq.wk (by omega)) (by decide)
    rw [cdec_pos h1, e1, bind_s, rq_pos (by simp [bound]; omega), rq_i64 (by omega) (by omega)]
    exact ⟨_, rfl, ⟨by (try dsimp only) <;> omega, by (try dsimp only) <;> omega, g3.trans a1 (Int.le_refl _), by simp; omega⟩, by (try dsimp only) <;> omega⟩
  · right
    obtain ⟨x, q1, e1, a1, _⟩ := pick_adv 30 (hq.wk (show (710000008 : Int) ≤ 1000000000 by omega))
    have hq1 : RdOk q1 710000009 := a1.ok hq (by omega)
    rw [cdec_neg h1]
    unfold spec_l9Draw__rsd_j1
    dsimp only
    rw [e1, bind_s]
    dsimp only
    cases (x == 0) with
    | true =>
      rw [ctt]
      by_cases h2 : (0 : Int) < l.length
      · obtain ⟨y, q2, e2, a2, _⟩ := num_adv (l := [10, -10, 9, 9223372036854775807]) (hq1.wk (by omega)) (by simp)
        rw [cdec_pos h2, e2, bind_s, rq_pos ⟨by omega, h2⟩]
        exact ⟨_, rfl, (g3.trans a1 (Int.le_refl _)).trans a2 (by omega), by (try dsimp only) <;> (rw [List.length_set]; omega)⟩
      · rw [cdec_neg h2]
        exact ⟨_, rfl, g3.trans a1 (by omega), by (try dsimp only) <;> omega⟩
    | false =>
      rw [cff]
      cases (x == 1) with
      | true =>
        rw [ctt, rq_pos (by simp [bound]; omega)]
        exact ⟨_, rfl, g3.trans a1 (by omega), by simp; omega⟩
      | false =>
        rw [cff]
        exact ⟨_, rfl, g3.trans a1 (by omega), by (try dsimp only) <;> omega⟩

theorem okM_of {m : ModT} (h : m.1.length ≤ 6 ∧ m.2.length ≤ 4 ∧ ∀ r ∈ m.2, okR r) : okM m := ⟨by have := h.1; omega, by have := h.2.1; omega, h.2.2⟩

/-! ### Objectives are linear -/

theorem valZ_neg (c x : List Int) (n : Nat) : valZ (c.map (fun y => 0 - y)) x n = 0 - valZ c x n := by
  induction n with
  | zero => simp [valZ]
  | succ n ih =>
    rw [valZ_succ, valZ_succ, ih]
    rcases Nat.lt_or_ge n c.length with h | h
    · rw [getD_map c (fun y => 0 - y) n 0 0 h]
      rw [Int.sub_mul]
      omega
    · have e1 : (c.map (fun y => 0 - y)).getD n 0 = 0 := by rw [List.getD_eq_getElem?_getD, List.getElem?_eq_none (by rw [List.length_map]; exact h)]; rfl
      have e2 : c.getD n 0 = 0 := by rw [List.getD_eq_getElem?_getD, List.getElem?_eq_none h]; rfl
      rw [e1, e2, Int.zero_mul]
      omega

theorem valZ_zero (c : List Int) (k n : Nat) : valZ c (List.replicate k 0) n = 0 := by
  induction n with
  | zero => rfl
  | succ n ih =>
    rw [valZ_succ, ih]
    have : (List.replicate k (0 : Int)).getD n 0 = 0 := by
      rw [List.getD_eq_getElem?_getD]
      rcases Nat.lt_or_ge n k with h | h
      · rw [List.getElem?_replicate_of_lt h]; rfl
      · rw [List.getElem?_eq_none (by rw [List.length_replicate]; exact h)]; rfl
    rw [this]
    simp

theorem objB_neg {m : ModT} {c : List Int} (h : objB m c = true) : objB m (c.map (fun y => 0 - y)) = true := by
  unfold objB at h ⊢
  simp only [Bool.and_eq_true, decide_eq_true_eq, List.all_eq_true] at h ⊢
  refine ⟨by rw [List.length_map]; exact h.1, fun y hy => ?_⟩
  obtain ⟨z, hz, rfl⟩ := List.mem_map.1 hy
  have := h.2 z hz
  unfold wtB at this ⊢
  simp only [Bool.and_eq_true, decide_eq_true_eq] at this ⊢
  omega

theorem cellsB_zero {m : ModT} (hm : modB m = true) : cellsB m (List.replicate m.1.length 0) = true := by
  unfold cellsB
  simp only [Bool.and_eq_true, decide_eq_true_eq, List.all_eq_true]
  refine ⟨List.length_replicate, fun i hi => ?_⟩
  have hi : i < m.1.length := by have := List.mem_range.1 hi; rwa [List.length_replicate] at this
  unfold modB at hm
  simp only [Bool.and_eq_true, decide_eq_true_eq, List.all_eq_true] at hm
  have h2 := hm.2.2.1 _ (getD_mem (l := m.1) (i := i) (d := 0) hi)
  unfold cellB at h2
  unfold cellAt
  rw [List.getD_eq_getElem?_getD, List.getElem?_replicate_of_lt hi]
  simp only [Bool.and_eq_true, decide_eq_true_eq, Option.getD_some] at h2 ⊢
  omega

end Go.AE.Y
namespace Go.AE.Y
open Go Go.AE

theorem valZ_two (c x : List Int) (n : Nat) : valZ (c.map (fun y => 2 * y)) x n = 2 * valZ c x n := by
  induction n with
  | zero => simp [valZ]
  | succ n ih =>
    rw [valZ_succ, valZ_succ, ih]
    rcases Nat.lt_or_ge n c.length with h | h
    · rw [getD_map c (fun y => 2 * y) n 0 0 h, Int.mul_assoc]
      omega
    · have e1 : (c.map (fun y => 2 * y)).getD n 0 = 0 := by rw [List.getD_eq_getElem?_getD, List.getElem?_eq_none (by rw [List.length_map]; exact h)]; rfl
      have e2 : c.getD n 0 = 0 := by rw [List.getD_eq_getElem?_getD, List.getElem?_eq_none h]; rfl
      rw [e1, e2, Int.zero_mul]
      omega

theorem better_two (m : ModT) (c b x : List Int) : betterB m (c.map (fun y => 2 * y)) b x = betterB m c b x := by
  unfold betterB
  rw [valZ_two, valZ_two]
  have e : decide (2 * valZ c x x.length < 2 * valZ c b b.length) = decide (valZ c x x.length < valZ c b b.length) := by
    by_cases h : valZ c x x.length < valZ c b b.length
    · rw [decide_eq_true h, decide_eq_true (by omega)]
    · rw [decide_eq_false h, decide_eq_false (by omega)]
  rw [e]

theorem walk_two (m : ModT) (c : List Int) : ∀ n x b, walkF m (c.map (fun y => 2 * y)) n x b = walkF m c n x b
  | 0, x, b => better_two m c b x
  | n + 1, x, b => by
    unfold walkF
    rw [better_two, walk_two m c n]

theorem objB_four {m : ModT} {c : List Int} (h : ∀ i, i < c.length → -4 ≤ c.getD i 0 ∧ c.getD i 0 ≤ 4) : objB m (c.map (fun y => 2 * y)) = objB m c := by
  unfold objB
  rw [List.length_map]
  have all4 : ∀ y ∈ c, -4 ≤ y ∧ y ≤ 4 := fun y hy => by
    obtain ⟨j, hj, rfl⟩ := List.mem_iff_getElem.1 hy
    have := h j hj
    rwa [List.getD_eq_getElem?_getD, List.getElem?_eq_getElem hj] at this
  have e1 : c.all wtB = true := List.all_eq_true.2 (fun y hy => by
    have := all4 y hy
    unfold wtB
    simp only [Bool.and_eq_true, decide_eq_true_eq]
    omega)
  have e2 : (c.map (fun y => 2 * y)).all wtB = true := List.all_eq_true.2 (fun y hy => by
    obtain ⟨z, hz, rfl⟩ := List.mem_map.1 hy
    have := all4 z hz
    unfold wtB
    simp only [Bool.and_eq_true, decide_eq_true_eq]
    omega)
  rw [e1, e2]

theorem min_two {m : ModT} {c : List Int} (h : ∀ i, i < c.length → -4 ≤ c.getD i 0 ∧ c.getD i 0 ≤ 4) : minB' m (c.map (fun y => 2 * y)) = minB' m c := by
  unfold minB' minF
  rw [objB_four h, walk_two]

end Go.AE.Y
namespace Go.AE.Y
open Go Go.AE

theorem walk_fold {m : ModT} {c : List Int} : ∀ n x b, walkF m c n x b = (seqF m n x).foldl (betterB m c) b
  | 0, x, b => rfl
  | n + 1, x, b => by
    unfold walkF seqF
    rw [List.foldl_cons]
    cases (nextF m x).1 with
    | true => rw [ctt, ctt, walk_fold n]
    | false => rfl

/-- What a search over cells in their order finds. -/
theorem fold_min {m : ModT} {c : List Int} {k : Nat} : ∀ (L : List (List Int)) (b : List Int), L.Pairwise (LtL k) → (∀ z ∈ L, z ≠ []) → (b = [] ∨ ∀ z ∈ L, LtL k b z) →
    (b ≠ [] → L.foldl (betterB m c) b ≠ [] ∧ (valZ c (L.foldl (betterB m c) b) (L.foldl (betterB m c) b).length < valZ c b b.length ∨ L.foldl (betterB m c) b = b)) ∧
    (∀ y ∈ L, solvesB m y = true → L.foldl (betterB m c) b ≠ [] ∧ (valZ c (L.foldl (betterB m c) b) (L.foldl (betterB m c) b).length < valZ c y y.length ∨ (valZ c (L.foldl (betterB m c) b) (L.foldl (betterB m c) b).length = valZ c y y.length ∧ (L.foldl (betterB m c) b = y ∨ LtL k (L.foldl (betterB m c) b) y)))) ∧
    (L.foldl (betterB m c) b = b ∨ (L.foldl (betterB m c) b ∈ L ∧ solvesB m (L.foldl (betterB m c) b) = true))
  | [], b, _, _, _ => ⟨fun h => ⟨h, Or.inr rfl⟩, fun y hy _ => absurd hy List.not_mem_nil, Or.inl rfl⟩
  | x :: L, b, hp, hne, hb => by
    rw [List.foldl_cons]
    obtain ⟨p1, p2⟩ := List.pairwise_cons.1 hp
    have hxne := hne x List.mem_cons_self
    have hne' : ∀ z ∈ L, z ≠ [] := fun z hz => hne z (List.mem_cons_of_mem _ hz)
    cases hs : solvesB m x && (b.isEmpty || decide (valZ c x x.length < valZ c b b.length)) with
    | true =>
      have e : betterB m c b x = x := by unfold betterB; rw [hs, ctt]
      rw [e]
      rw [Bool.and_eq_true, Bool.or_eq_true, decide_eq_true_eq] at hs
      obtain ⟨i1, i2, i3⟩ := fold_min (m := m) (c := c) L x p2 hne' (Or.inr p1)
      obtain ⟨j1, j2⟩ := i1 hxne
      refine ⟨fun hbn => ⟨j1, ?_⟩, fun y hy hsy => ?_, ?_⟩
      · rcases hs.2 with h1 | h1
        · exact absurd (List.isEmpty_iff.1 h1) hbn
        · left
          rcases j2 with j2 | j2
          · omega
          · rw [j2]; exact h1
      · rcases List.mem_cons.1 hy with rfl | hy
        · refine ⟨j1, ?_⟩
          rcases j2 with j2 | j2
          · exact Or.inl j2
          · exact Or.inr ⟨by rw [j2], Or.inl j2⟩
        · exact i2 y hy hsy
      · right
        rcases i3 with i3 | ⟨i3, i4⟩
        · rw [i3]; exact ⟨List.mem_cons_self, hs.1⟩
        · exact ⟨List.mem_cons_of_mem _ i3, i4⟩
    | false =>
      have e : betterB m c b x = b := by unfold betterB; rw [hs, cff]
      rw [e]
      have hb' : b = [] ∨ ∀ z ∈ L, LtL k b z := hb.imp id (fun h z hz => h z (List.mem_cons_of_mem _ hz))
      obtain ⟨i1, i2, i3⟩ := fold_min (m := m) (c := c) L b p2 hne' hb'
      refine ⟨i1, fun y hy hsy => ?_, i3.imp id (fun h => ⟨List.mem_cons_of_mem _ h.1, h.2⟩)⟩
      rcases List.mem_cons.1 hy with rfl | hy
      · rw [hsy, Bool.true_and, Bool.or_eq_false_iff, decide_eq_false_iff_not] at hs
        have hbn : b ≠ [] := fun h => by rw [h] at hs; exact absurd hs.1 (by decide)
        have hlt : LtL k b y := by
          rcases hb with h | h
          · exact absurd h hbn
          · exact h y List.mem_cons_self
        obtain ⟨j1, j2⟩ := i1 hbn
        refine ⟨j1, ?_⟩
        rcases j2 with j2 | j2
        · left; omega
        · rw [j2]
          by_cases q : valZ c b b.length < valZ c y y.length
          · exact Or.inl q
          · exact Or.inr ⟨by omega, Or.inr hlt⟩
      · exact i2 y hy hsy

theorem min_best {m : ModT} {c : List Int} (hm : modB m = true) : (∀ y, cellsB m y = true → solvesB m y = true → minF m c ≠ [] ∧ (valZ c (minF m c) (minF m c).length < valZ c y y.length ∨ (valZ c (minF m c) (minF m c).length = valZ c y y.length ∧ (minF m c = y ∨ LtL m.1.length (minF m c) y)))) ∧ (minF m c = [] ∨ (cellsB m (minF m c) = true ∧ solvesB m (minF m c) = true)) := by
  have hz := zero_cells hm
  have e : minF m c = (allF m (zeroF m)).foldl (betterB m c) [] := by unfold minF allF zeroF; exact walk_fold 1024 _ _
  rw [e]
  obtain ⟨_, i2, i3⟩ := fold_min (m := m) (c := c) (allF m (zeroF m)) [] (seq_sorted 1024 _ hz) (fun z hzz => cells_ne hm (all_ok hz hzz)) (Or.inl rfl)
  refine ⟨fun y hy hs => i2 y ((mem_all hm).2 hy) hs, ?_⟩
  rcases i3 with h | ⟨h1, h2⟩
  · exact Or.inl h
  · exact Or.inr ⟨(mem_all hm).1 h1, h2⟩

end Go.AE.Y
namespace Go.AE.Y
open Go Go.AE

theorem ext_getD {l l' : List Int} (h : l.length = l'.length) (hj : ∀ j, l.getD j 0 = l'.getD j 0) : l = l' := by
  apply List.ext_getElem h
  intro j h1 h2
  have := hj j
  rwa [List.getD_eq_getElem?_getD, List.getElem?_eq_getElem h1, List.getD_eq_getElem?_getD, List.getElem?_eq_getElem h2] at this

/-- The first place of a cell. -/
def baseZ (m : ModT) (i : Nat) : Int := sumZ (m.1.take i)

theorem baseZ_succ {m : ModT} {i : Nat} (h : i < m.1.length) : baseZ m (i + 1) = baseZ m i + (m.1.getD i 0 + 1) := by
  unfold baseZ
  rw [take_snoc6 h, sumZ_snoc]

theorem baseZ_le {m : ModT} (hm : modB m = true) : ∀ i, i ≤ m.1.length → (i : Int) ≤ baseZ m i ∧ baseZ m i ≤ 12 := by
  have hmono : ∀ i n, i + n = m.1.length → baseZ m i ≤ baseZ m m.1.length := by
    intro i n
    induction n generalizing i with
    | zero => intro h; rw [show i = m.1.length by omega]; exact Int.le_refl _
    | succ n ih =>
      intro h
      have h1 := ih (i + 1) (by omega)
      rw [baseZ_succ (by omega)] at h1
      have := modB_size hm (i := i) (by omega)
      omega
  have hlo : ∀ i, i ≤ m.1.length → (i : Int) ≤ baseZ m i := by
    intro i
    induction i with
    | zero => intro _; show ((0 : Nat) : Int) ≤ 0; decide
    | succ n ih =>
      intro h
      have h1 := ih (by omega)
      rw [baseZ_succ (by omega)]
      have := modB_size hm (i := n) (by omega)
      omega
  intro i hi
  refine ⟨hlo i hi, ?_⟩
  have h1 := hmono i (m.1.length - i) (by omega)
  have h2 : baseZ m m.1.length ≤ 12 := by
    unfold baseZ
    rw [List.take_length]
    unfold modB at hm
    simp only [Bool.and_eq_true, decide_eq_true_eq] at hm
    exact hm.2.2.2.1
  omega

/-! ### A row's marks -/

/-- How many values are left. -/
def cntF (row : List Bool) : Nat → Int
  | 0 => 0
  | k + 1 => bif row.getD k false then cntF row k + 1 else cntF row k
/-- A row's marks, in one pass. -/
def rowF (b : Nat) (row : List Bool) (one : Bool) (o : List Int) : Nat → List Int
  | 0 => o
  | k + 1 => bif row.getD k false then (bif one then (rowF b row one o k).set (b + k) 1 else rowF b row one o k) else (rowF b row one o k).set (b + k) (-1)
/-- The values that are gone. -/
def goneF (b : Nat) (row : List Bool) (o : List Int) : Nat → List Int
  | 0 => o
  | k + 1 => bif row.getD k false then goneF b row o k else (goneF b row o k).set (b + k) (-1)
/-- The values that are left. -/
def leftF (b : Nat) (row : List Bool) (o : List Int) : Nat → List Int
  | 0 => o
  | k + 1 => bif row.getD k false then (leftF b row o k).set (b + k) 1 else leftF b row o k

theorem cntF_bound (row : List Bool) : ∀ k, 0 ≤ cntF row k ∧ cntF row k ≤ k
  | 0 => ⟨Int.le_refl _, Int.le_refl _⟩
  | k + 1 => by
    have := cntF_bound row k
    unfold cntF
    cases row.getD k false with
    | true => rw [ctt]; omega
    | false => rw [cff]; omega

theorem rowF_len (b : Nat) (row : List Bool) (one : Bool) (o : List Int) : ∀ k, (rowF b row one o k).length = o.length
  | 0 => rfl
  | k + 1 => by
    have := rowF_len b row one o k
    unfold rowF
    cases row.getD k false <;> cases one <;> simp [this]
theorem goneF_len (b : Nat) (row : List Bool) (o : List Int) : ∀ k, (goneF b row o k).length = o.length
  | 0 => rfl
  | k + 1 => by
    have := goneF_len b row o k
    unfold goneF
    cases row.getD k false <;> simp [this]
theorem leftF_len (b : Nat) (row : List Bool) (o : List Int) : ∀ k, (leftF b row o k).length = o.length
  | 0 => rfl
  | k + 1 => by
    have := leftF_len b row o k
    unfold leftF
    cases row.getD k false <;> simp [this]

theorem rowF_get {b : Nat} {row : List Bool} {one : Bool} {o : List Int} : ∀ {k : Nat}, b + k ≤ o.length → ∀ j, (rowF b row one o k).getD j 0 = if b ≤ j ∧ j < b + k then (bif row.getD (j - b) false then (bif one then 1 else o.getD j 0) else -1) else o.getD j 0
  | 0, _, j => by rw [if_neg (by omega)]; rfl
  | k + 1, h, j => by
    have ih := rowF_get (b := b) (row := row) (one := one) (o := o) (k := k) (by omega) j
    have hl := rowF_len b row one o k
    unfold rowF
    by_cases hj : j = b + k
    · subst hj
      rw [if_neg (by omega)] at ih
      rw [if_pos (by omega), show b + k - b = k by omega]
      cases row.getD k false with
      | true =>
        cases one with
        | true => rw [ctt, ctt, ctt, ctt, getD_set_eq' (by omega)]
        | false => rw [ctt, cff, ctt, cff]; exact ih
      | false => rw [cff, cff, getD_set_eq' (by omega)]
    · have e : (b ≤ j ∧ j < b + (k + 1)) ↔ (b ≤ j ∧ j < b + k) := by omega
      simp only [e]
      rw [← ih]
      cases row.getD k false with
      | true =>
        cases one with
        | true => rw [ctt, ctt, getD_set_ne' (by omega)]
        | false => rw [ctt, cff]
      | false => rw [cff, getD_set_ne' (by omega)]

theorem goneF_get {b : Nat} {row : List Bool} {o : List Int} : ∀ {k : Nat}, b + k ≤ o.length → ∀ j, (goneF b row o k).getD j 0 = if b ≤ j ∧ j < b + k then (bif row.getD (j - b) false then o.getD j 0 else -1) else o.getD j 0
  | 0, _, j => by rw [if_neg (by omega)]; rfl
  | k + 1, h, j => by
    have ih := goneF_get (b := b) (row := row) (o := o) (k := k) (by omega) j
    have hl := goneF_len b row o k
    unfold goneF
    by_cases hj : j = b + k
    · subst hj
      rw [if_neg (by omega)] at ih
      rw [if_pos (by omega), show b + k - b = k by omega]
      cases row.getD k false with
      | true => rw [ctt, ctt]; exact ih
      | false => rw [cff, cff, getD_set_eq' (by omega)]
    · have e : (b ≤ j ∧ j < b + (k + 1)) ↔ (b ≤ j ∧ j < b + k) := by omega
      simp only [e]
      rw [← ih]
      cases row.getD k false with
      | true => rw [ctt]
      | false => rw [cff, getD_set_ne' (by omega)]

theorem leftF_get {b : Nat} {row : List Bool} {o : List Int} : ∀ {k : Nat}, b + k ≤ o.length → ∀ j, (leftF b row o k).getD j 0 = if b ≤ j ∧ j < b + k then (bif row.getD (j - b) false then 1 else o.getD j 0) else o.getD j 0
  | 0, _, j => by rw [if_neg (by omega)]; rfl
  | k + 1, h, j => by
    have ih := leftF_get (b := b) (row := row) (o := o) (k := k) (by omega) j
    have hl := leftF_len b row o k
    unfold leftF
    by_cases hj : j = b + k
    · subst hj
      rw [if_neg (by omega)] at ih
      rw [if_pos (by omega), show b + k - b = k by omega]
      cases row.getD k false with
      | true => rw [ctt, ctt, getD_set_eq' (by omega)]
      | false => rw [cff, cff]; exact ih
    · have e : (b ≤ j ∧ j < b + (k + 1)) ↔ (b ≤ j ∧ j < b + k) := by omega
      simp only [e]
      rw [← ih]
      cases row.getD k false with
      | true => rw [ctt, getD_set_ne' (by omega)]
      | false => rw [cff]

/-- Two passes do what one does. -/
theorem two_pass {b : Nat} {row : List Bool} {one : Bool} {o : List Int} {k : Nat} (h : b + k ≤ o.length) : (bif one then leftF b row (goneF b row o k) k else goneF b row o k) = rowF b row one o k := by
  cases one with
  | true =>
    rw [ctt]
    refine ext_getD (by rw [leftF_len, goneF_len, rowF_len]) (fun j => ?_)
    rw [leftF_get (by rw [goneF_len]; exact h), goneF_get h, rowF_get h, ctt]
    by_cases hj : b ≤ j ∧ j < b + k
    · rw [if_pos hj, if_pos hj, if_pos hj]
      cases row.getD (j - b) false <;> rfl
    · rw [if_neg hj, if_neg hj, if_neg hj]
  | false =>
    rw [cff]
    refine ext_getD (by rw [goneF_len, rowF_len]) (fun j => ?_)
    rw [goneF_get h, rowF_get h, cff]

/-- The marks of the first n cells. -/
noncomputable def domF (m : ModT) (d : List (List Bool)) : Nat → List Int
  | 0 => List.replicate 12 0
  | n + 1 => rowF (baseZ m n).toNat (d.getD n []) (cntF (d.getD n []) (d.getD n []).length == 1) (domF m d n) (d.getD n []).length
noncomputable def domP (m : ModT) (d : List (List Bool)) : Bool × List Int := bif domB m d then (true, domF m d d.length) else (false, [])

theorem domF_len (m : ModT) (d : List (List Bool)) : ∀ n, (domF m d n).length = 12
  | 0 => by unfold domF; exact List.length_replicate
  | n + 1 => by unfold domF; rw [rowF_len, domF_len m d n]

theorem dom_room {m : ModT} {d : List (List Bool)} (hd : domB m d = true) {i : Nat} (hi : i < d.length) : 0 ≤ baseZ m i ∧ (baseZ m i).toNat + (d.getD i []).length ≤ 12 ∧ (d.getD i []).length ≤ 4 := by
  obtain ⟨d1, d2, d3⟩ := domB_row hd
  have h1 := baseZ_le d1 (i + 1) (by omega)
  have h2 := baseZ_le d1 i (by omega)
  rw [baseZ_succ (by omega)] at h1
  have h3 := d3 i hi
  have h4 := modB_size d1 (i := i) (by omega)
  omega

theorem domP_len (m : ModT) (d : List (List Bool)) : (domP m d).2.length ≤ 12 := by
  unfold domP
  cases domB m d with
  | true => rw [ctt]; dsimp only; rw [domF_len]; omega
  | false => rw [cff]; simp

end Go.AE.Y
namespace Go.AE.Y
open Go Go.AE

/-- Drawn domains. -/
def okDm (d : List (List Bool)) : Prop := d.length ≤ 8 ∧ ∀ x ∈ d, x.length ≤ 8

theorem okDm.small {d : List (List Bool)} (h : okDm d) : smallD d := ⟨by have := h.1; omega, fun x hx => by have := h.2 x hx; omega⟩

theorem spec_l8Make_ok {m : ModT} (b : Bool) (hm : modB m = true) : ∃ d, spec_l8Make m b = some d ∧ d.length = m.1.length ∧ ∀ x ∈ d, x.length ≤ 4 := by
  obtain ⟨m1, m2, m3⟩ := modB_len hm
  unfold spec_l8Make
  refine loop_ex (f := spec_l8Make_l1 m b) (fun s => 0 ≤ s.1 ∧ s.1 ≤ m.1.length ∧ (s.2.length : Int) = s.1 ∧ ∀ x ∈ s.2, x.length ≤ 4) (fun s => (m.1.length - s.1).toNat) (fun d => d.length = m.1.length ∧ ∀ x ∈ d, x.length ≤ 4) ?_ ((0 : Int), []) ⟨Int.le_refl _, by (try dsimp only) <;> omega, rfl, by simp⟩
  rintro ⟨i, out⟩ ⟨g1, g2, g3, g4⟩
  dsimp only at g1 g2 g3 g4 ⊢
  unfold spec_l8Make_l1
  dsimp only
  by_cases h1 : i < m.1.length
  · left
    have hs := modB_size hm (i := i.toNat) (by omega)
    rw [cdec_pos h1]
    refine loop_ex (f := spec_l8Make_l2 m b i out) (fun s => 0 ≤ s.1 ∧ s.1 ≤ m.1.getD i.toNat 0 + 1 ∧ (s.2.length : Int) = s.1) (fun s => (m.1.getD i.toNat 0 + 1 - s.1).toNat)
      (fun o => ∃ s', o = .inl s' ∧ (0 ≤ s'.1 ∧ s'.1 ≤ m.1.length ∧ (s'.2.length : Int) = s'.1 ∧ ∀ x ∈ s'.2, x.length ≤ 4) ∧ (m.1.length - s'.1).toNat < (m.1.length - i).toNat) ?_ ((0 : Int), []) ⟨Int.le_refl _, by (try dsimp only) <;> omega, rfl⟩ |>.elim fun o h => ?_
    · rintro ⟨k, row⟩ ⟨k1, k2, k3⟩
      dsimp only at k1 k2 k3 ⊢
      unfold spec_l8Make_l2
      dsimp only
      rw [rq_pos ⟨g1, h1⟩]
      by_cases h2 : k ≤ m.1.getD i.toNat 0
      · left
        rw [cdec_pos h2, rq_pos (by simp [bound]; omega), rq_i64 (by omega) (by omega)]
        exact ⟨_, rfl, ⟨by (try dsimp only) <;> omega, by (try dsimp only) <;> omega, by simp; omega⟩, by (try dsimp only) <;> omega⟩
      · right
        rw [cdec_neg h2]
        unfold spec_l8Make_j1
        rw [rq_pos (by simp [bound]; omega), rq_i64 (by omega) (by omega)]
        refine ⟨_, rfl, _, rfl, ⟨by (try dsimp only) <;> omega, by (try dsimp only) <;> omega, by simp; omega, fun x hx => ?_⟩, by (try dsimp only) <;> omega⟩
        rcases List.mem_append.1 hx with hx | hx
        · exact g4 x hx
        · rw [List.mem_singleton.1 hx]; omega
    · obtain ⟨h3, s', rfl, h4, h5⟩ := h
      exact ⟨s', h3, h4, h5⟩
  · right
    rw [cdec_neg h1]
    exact ⟨out, rfl, by omega, g4⟩

theorem spec_FullDomains_ok {m : ModT} (hs : smallM m) : ∃ d, spec_FullDomains m = some d ∧ d.length ≤ 5 ∧ ∀ x ∈ d, x.length ≤ 4 := by
  unfold spec_FullDomains
  rw [spec_ModelValid_eq m hs, bind_s]
  cases hm : modB m with
  | false => rw [cnf]; exact ⟨[], rfl, by simp, by simp⟩
  | true =>
    obtain ⟨d, e, h1, h2⟩ := spec_l8Make_ok true hm
    obtain ⟨m1, m2, m3⟩ := modB_len hm
    rw [cnt, e, bind_s]
    exact ⟨d, rfl, by omega, h2⟩

theorem rows_set {d : List (List Bool)} {n : Nat} (h : ∀ x ∈ d, x.length ≤ n) {i : Nat} {r : List Bool} (hr : r.length ≤ n) : ∀ x ∈ d.set i r, x.length ≤ n := fun x hx => by
  rcases List.mem_or_eq_of_mem_set hx with hx | hx
  · exact h x hx
  · rw [hx]; exact hr

theorem rows_get {d : List (List Bool)} {n : Nat} (h : ∀ x ∈ d, x.length ≤ n) (i : Nat) : (d.getD i []).length ≤ n := by
  rcases Nat.lt_or_ge i d.length with h1 | h1
  · exact h _ (getD_mem h1)
  · rw [List.getD_eq_getElem?_getD, List.getElem?_eq_none h1]; simp

theorem spec_l8Draw_ok {r : List Int × Int} {o1 : List Int} {o2 : List RuleT} (h : RdOk r 720000000) (hs : smallM (o1, o2)) : ∃ d r', spec_l8Draw__rsd r o1 o2 = some (d, r') ∧ Adv r r' 40 ∧ okDm d := by
  unfold spec_l8Draw__rsd
  obtain ⟨d0, e0, p1, p2⟩ := spec_FullDomains_ok hs
  rw [e0, bind_s]
  have key := loop_ex (f := spec_l8Draw__rsd_l1) (fun s => 0 ≤ s.1 ∧ s.1 ≤ d0.length ∧ Adv r s.2.1 (4 * s.1) ∧ s.2.2.length = d0.length ∧ ∀ x ∈ s.2.2, x.length ≤ 4) (fun s => (d0.length - s.1).toNat)
    (fun o => Adv r o.2 40 ∧ okDm o.1) ?_ ((0 : Int), r, d0) ⟨Int.le_refl _, by (try dsimp only) <;> omega, Adv.refl r (Int.le_refl _), rfl, p2⟩
  · obtain ⟨⟨d, r'⟩, q1, q2⟩ := key
    exact ⟨d, r', q1, q2⟩
  rintro ⟨i, q, d⟩ ⟨g1, g2, g3, g4, g5⟩
  dsimp only at g1 g2 g3 g4 g5 ⊢
  have hq : RdOk q 720000020 := g3.ok h (by omega)
  unfold spec_l8Draw__rsd_l1
  dsimp only
  by_cases h1 : i < d.length
  · left
    rw [cdec_pos h1]
    refine loop_ex (f := spec_l8Draw__rsd_l2 i) (fun s => 0 ≤ s.1 ∧ s.1 ≤ 4 ∧ Adv r s.2.1 (4 * i + s.1) ∧ s.2.2.length = d0.length ∧ ∀ x ∈ s.2.2, x.length ≤ 4) (fun s => (4 - s.1).toNat)
      (fun o => ∃ s', o = .inl s' ∧ (0 ≤ s'.1 ∧ s'.1 ≤ d0.length ∧ Adv r s'.2.1 (4 * s'.1) ∧ s'.2.2.length = d0.length ∧ ∀ x ∈ s'.2.2, x.length ≤ 4) ∧ (d0.length - s'.1).toNat < (d0.length - i).toNat) ?_ ((0 : Int), q, d) ⟨Int.le_refl _, by (try dsimp only) <;> omega, g3.trans (Adv.refl q (c := 0) (by omega)) (by (try dsimp only) <;> omega), g4, g5⟩ |>.elim fun o h => ?_
    · rintro ⟨k, u, e⟩ ⟨k1, k2, k3, k4, k5⟩
      dsimp only at k1 k2 k3 k4 k5 ⊢
      have hu : RdOk u 720000030 := k3.ok h (by omega)
      have hr := rows_get k5 i.toNat
      unfold spec_l8Draw__rsd_l2
      dsimp only
      rw [rq_pos ⟨g1, by omega⟩]
      by_cases h2 : k < (e.getD i.toNat []).length
      · left
        obtain ⟨x, u1, e1, a1, _⟩ := pick_adv 5 (hu.wk (show (720000030 : Int) ≤ 1000000000 by omega))
        rw [cdec_pos h2, rq_pos ⟨g1, by omega⟩, e1, bind_s]
        dsimp only
        rw [set_getD, rq_pos ⟨k1, h2⟩, rq_i64 (by omega) (by omega)]
        exact ⟨_, rfl, ⟨by (try dsimp only) <;> omega, by (try dsimp only) <;> omega, k3.trans a1 (by (try dsimp only) <;> omega), by (try dsimp only) <;> (rw [List.length_set]; exact k4), rows_set k5 (by rw [List.length_set]; exact hr)⟩, by (try dsimp only) <;> omega⟩
      · right
        rw [cdec_neg h2, rq_i64 (by omega) (by omega), set_getD]
        exact ⟨_, rfl, _, rfl, ⟨by (try dsimp only) <;> omega, by (try dsimp only) <;> omega, k3.trans (Adv.refl u (c := 0) (by omega)) (by (try dsimp only) <;> omega), k4, k5⟩, by (try dsimp only) <;> omega⟩
    · obtain ⟨h3, s', rfl, h4, h5⟩ := h
      exact ⟨s', h3, h4, h5⟩
  · right
    rw [cdec_neg h1]
    have fin : ∀ {u : List Int × Int} {e : List (List Bool)}, Adv r u 38 → RdOk u 720000040 → e.length ≤ 5 → (∀ x ∈ e, x.length ≤ 5) → ∃ o, spec_l8Draw__rsd_j2 (u, e) = some o ∧ (Adv r o.2 40 ∧ okDm o.1) := fun {u e} ha hu he hx => by
      have hok : okDm e := ⟨by omega, fun x hx' => by have := hx x hx'; omega⟩
      unfold spec_l8Draw__rsd_j2
      dsimp only
      by_cases h2 : (0:Int) < e.length
      · obtain ⟨x, u1, e1, a1, _⟩ := pick_adv 30 (hu.wk (show (720000040 : Int) ≤ 1000000000 by omega))
        rw [cdec_pos h2, e1, bind_s]
        dsimp only
        cases (x == 0) with
        | true =>
          rw [ctt, rq_i64 (by omega) (by omega), rq_pos ⟨by omega, by omega⟩]
          refine ⟨_, rfl, ha.trans a1 (by omega), ?_, fun y hy => hok.2 y (List.mem_of_mem_take hy)⟩
          dsimp only
          rw [List.length_take]
          omega
        | false =>
          rw [cff]
          exact ⟨_, rfl, ha.trans a1 (by omega), hok⟩
      · rw [cdec_neg h2]
        exact ⟨_, rfl, ha.trans (Adv.refl u (c := 0) (by omega)) (by omega), hok⟩
    have key : ∃ o, spec_l8Draw__rsd_j1 (q, d) = some o ∧ (Adv r o.2 40 ∧ okDm o.1) := by
      unfold spec_l8Draw__rsd_j1
      dsimp only
      by_cases h2 : (0:Int) < d.length
      · obtain ⟨x, u1, e1, a1, _⟩ := pick_adv 30 (hq.wk (show (720000020 : Int) ≤ 1000000000 by omega))
        have hu1 : RdOk u1 720000040 := a1.ok hq (by omega)
        rw [cdec_pos h2, e1, bind_s]
        dsimp only
        have hr := rows_get g5 (0:Int).toNat
        cases (x == 0) with
        | true =>
          rw [ctt, rq_pos ⟨by omega, h2⟩, rq_pos (by simp only [bound, List.length_cons, List.length_nil]; omega), rq_pos ⟨by omega, h2⟩]
          exact fin (g3.trans a1 (by omega)) hu1 (by rw [List.length_set]; omega) (rows_set (fun y hy => by have := g5 y hy; omega) (by rw [List.length_append]; simp only [List.length_cons, List.length_nil]; omega))
        | false =>
          rw [cff]
          exact fin (g3.trans a1 (by omega)) hu1 (by omega) (fun y hy => by have := g5 y hy; omega)
      · rw [cdec_neg h2]
        exact fin (g3.trans (Adv.refl q (c := 0) (by omega)) (by omega)) (hq.wk (by omega)) (by omega) (fun y hy => by have := g5 y hy; omega)
    obtain ⟨o, e1, q1⟩ := key
    rw [e1]
    exact ⟨o, rfl, q1⟩

end Go.AE.Y
namespace Go.AE.Y
open Go Go.AE

theorem lowS_min {c : Int} {row : List Bool} : ∀ n : Nat, ((lowS c row n).2 = true → ∃ k : Nat, k < n ∧ row.getD k false = true ∧ c * k = (lowS c row n).1) ∧ ∀ k : Nat, k < n → row.getD k false = true → (lowS c row n).2 = true ∧ (lowS c row n).1 ≤ c * k
  | 0 => ⟨fun h => (by cases h), fun k hk => (by omega)⟩
  | n + 1 => by
    obtain ⟨i1, i2⟩ := lowS_min (c := c) (row := row) n
    unfold lowS
    cases hq : row.getD n false && (!(lowS c row n).2 || decide (c * n < (lowS c row n).1)) with
    | true =>
      rw [ctt]
      rw [Bool.and_eq_true, Bool.or_eq_true, decide_eq_true_eq] at hq
      refine ⟨fun _ => ⟨n, by omega, hq.1, rfl⟩, fun k hk hr => ⟨rfl, ?_⟩⟩
      dsimp only
      rcases Nat.lt_or_ge k n with h | h
      · obtain ⟨j1, j2⟩ := i2 k h hr
        rcases hq.2 with h2 | h2
        · rw [j1] at h2; cases h2
        · omega
      · rw [show k = n by omega]; omega
    | false =>
      rw [cff]
      refine ⟨fun h => ?_, fun k hk hr => ?_⟩
      · obtain ⟨k, k1, k2⟩ := i1 h
        exact ⟨k, by omega, k2⟩
      · rcases Nat.lt_or_ge k n with h | h
        · exact i2 k h hr
        · have : k = n := by omega
          subst this
          rw [hr, Bool.true_and, Bool.or_eq_false_iff, decide_eq_false_iff_not] at hq
          refine ⟨by simpa using hq.1, by omega⟩

theorem emptyB_row {d : List (List Bool)} (h : emptyB d = false) {i : Nat} (hi : i < d.length) : ∃ k, k < (d.getD i []).length ∧ (d.getD i []).getD k false = true := by
  unfold emptyB at h
  have h1 := List.any_eq_false.1 h _ (getD_mem (l := d) (i := i) (d := []) hi)
  unfold noneB at h1
  have h2 : (d.getD i []).any (fun b => true == b) = true := by simpa using h1
  obtain ⟨b, h3, h4⟩ := List.any_eq_true.1 h2
  obtain ⟨k, k1, rfl⟩ := List.mem_iff_getElem.1 h3
  refine ⟨k, k1, ?_⟩
  rw [List.getD_eq_getElem?_getD, List.getElem?_eq_getElem k1]
  simpa using (beq_iff_eq.1 h4).symm

open Classical in
noncomputable def argF (c : List Int) (d : List (List Bool)) (i : Nat) : Int :=
  if h : ∃ k : Nat, k < (d.getD i []).length ∧ (d.getD i []).getD k false = true ∧ c.getD i 0 * k = (lowS (c.getD i 0) (d.getD i []) (d.getD i []).length).1 then ((Classical.choose h : Nat) : Int) else 0
noncomputable def argL (c : List Int) (d : List (List Bool)) : List Int := (List.range d.length).map (argF c d)

theorem argF_ok {c : List Int} {d : List (List Bool)} (h : emptyB d = false) {i : Nat} (hi : i < d.length) : ∃ k : Nat, argF c d i = k ∧ k < (d.getD i []).length ∧ (d.getD i []).getD k false = true ∧ c.getD i 0 * k = (lowS (c.getD i 0) (d.getD i []) (d.getD i []).length).1 := by
  obtain ⟨k, k1, k2⟩ := emptyB_row h hi
  obtain ⟨l1, l2⟩ := lowS_min (c := c.getD i 0) (row := d.getD i []) (d.getD i []).length
  have hex := l1 (l2 k k1 k2).1
  unfold argF
  rw [dif_pos hex]
  exact ⟨_, rfl, Classical.choose_spec hex⟩

theorem argL_get {c : List Int} {d : List (List Bool)} {i : Nat} (hi : i < d.length) : (argL c d).getD i 0 = argF c d i := by
  unfold argL
  rw [getD_map _ (argF c d) i 0 0 (by rw [List.length_range]; exact hi), List.getD_eq_getElem?_getD, List.getElem?_eq_getElem (by rw [List.length_range]; exact hi), List.getElem_range]
  rfl

theorem argL_len (c : List Int) (d : List (List Bool)) : (argL c d).length = d.length := by unfold argL; simp

theorem argL_ok {m : ModT} {c : List Int} {d : List (List Bool)} (hd : domB m d = true) (h : emptyB d = false) : cellsB m (argL c d) = true ∧ inB d (argL c d) = true ∧ ∀ n, n ≤ d.length → valZ c (argL c d) n = lowT c d n := by
  obtain ⟨d1, d2, d3⟩ := domB_row hd
  have hl := argL_len c d
  refine ⟨?_, ?_, ?_⟩
  · unfold cellsB cellAt
    simp only [Bool.and_eq_true, decide_eq_true_eq, List.all_eq_true]
    refine ⟨by omega, fun i hi => ?_⟩
    have hi' : i < d.length := by rw [← hl]; exact List.mem_range.1 hi
    obtain ⟨k, k1, k2, k3, k4⟩ := argF_ok (c := c) h hi'
    have := d3 i hi'
    rw [argL_get hi', k1]
    omega
  · unfold inB inAt
    refine List.all_eq_true.2 (fun i hi => ?_)
    have hi' : i < d.length := by rw [← hl]; exact List.mem_range.1 hi
    obtain ⟨k, k1, k2, k3, k4⟩ := argF_ok (c := c) h hi'
    rw [argL_get hi', k1, Int.toNat_natCast]
    exact k3
  · intro n
    induction n with
    | zero => intro _; rfl
    | succ n ih =>
      intro hn
      obtain ⟨k, k1, k2, k3, k4⟩ := argF_ok (c := c) h (show n < d.length by omega)
      rw [valZ_succ, ih (by omega), argL_get (by omega), k1, k4]
      rfl

theorem low_le {m : ModT} {c y : List Int} {d : List (List Bool)} (hd : domB m d = true) (hy : cellsB m y = true) (hi : inB d y = true) : ∀ n, n ≤ d.length → lowT c d n ≤ valZ c y n := by
  obtain ⟨d1, d2, d3⟩ := domB_row hd
  obtain ⟨y1, y2⟩ := cells_dig hy
  intro n
  induction n with
  | zero => intro _; exact Int.le_refl _
  | succ n ih =>
    intro hn
    have h1 := ih (by omega)
    have h2 := y2 n
    have h3 := d3 n (by omega)
    unfold inB inAt at hi
    have h4 := List.all_eq_true.1 hi n (List.mem_range.2 (by omega))
    obtain ⟨_, l2⟩ := lowS_min (c := c.getD n 0) (row := d.getD n []) (d.getD n []).length
    have h5 := (l2 (y.getD n 0).toNat (by omega) h4).2
    rw [show (((y.getD n 0).toNat : Nat) : Int) = y.getD n 0 by omega] at h5
    rw [valZ_succ]
    unfold lowT
    omega

/-- A model without its rules. -/
def freeM (m : ModT) : ModT := (m.1, [])

theorem free_small {m : ModT} (h : smallM m) : smallM (freeM m) := ⟨h.1, by show 0 ≤ 1048576; omega, fun r hr => absurd hr List.not_mem_nil⟩
theorem free_mod {m : ModT} (h : modB m = true) : modB (freeM m) = true := by
  unfold modB at h ⊢
  simp only [Bool.and_eq_true] at h ⊢
  exact ⟨h.1, decide_eq_true (show (0 : Nat) ≤ 8 by omega), h.2.2.1, h.2.2.2.1, rfl⟩
theorem free_next {m : ModT} {x : List Int} (hm : modB m = true) (hx : cellsB m x = true) : nextV (freeM m) x = (true, x) := by
  have hm' := free_mod hm
  have hx' : cellsB (freeM m) x = true := hx
  have hne := cells_ne hm hx
  unfold nextV
  rw [first_step hm' hx', hm', hx']
  have e : solvesB (freeM m) x = true := rfl
  rw [e, ctt, Bool.true_and, ctt]
  cases x with
  | nil => exact absurd rfl hne
  | cons y z => rfl
theorem free_after {m : ModT} {x : List Int} (hm : modB m = true) (hx : cellsB m x = true) : afterV (freeM m) x = bif (nextF m x).1 then (true, (nextF m x).2) else (false, []) := by
  have e : nextF (freeM m) x = nextF m x := rfl
  unfold afterV
  rw [e, free_next hm (next_ok hx)]

theorem spec_DrawLowerBound_ok {a : List Int} (h : ∀ x ∈ a, 0 ≤ x ∧ x ≤ 255) : ∃ d c m, spec_DrawLowerBound a = some (d, c, m) ∧ okDm d ∧ c.length ≤ 9 ∧ okM m := by
  unfold spec_DrawLowerBound
  obtain ⟨r, e1, h1⟩ := open_ok h
  obtain ⟨r2, m, e2, a2, m2⟩ := spec_l6Model_ok (h1.wk (by omega))
  have h2 : RdOk r2 2000 := a2.ok h1 (by omega)
  have m2' : m.1.length ≤ 4 ∧ m.2.length ≤ 4 ∧ ∀ r ∈ m.2, okR r := m2
  obtain ⟨r3, m', e3, a3, m3⟩ := spec_l6Mutate_ok (m := m) (h2.wk (by omega)) m2'
  have h3 : RdOk r3 3000 := a3.ok h2 (by omega)
  obtain ⟨r4, c, e4, a4, m4⟩ := spec_l9Draw_ok (o1 := m'.1) m'.2 (h3.wk (by omega)) (by omega)
  have h4 : RdOk r4 4000 := a4.ok h3 (by omega)
  obtain ⟨d, r5, e5, a5, m5⟩ := spec_l8Draw_ok (o1 := m'.1) (o2 := m'.2) (h4.wk (by omega)) (okM_of m3).small
  rw [e1, bind_s, e2, bind_s]
  dsimp only
  rw [e3, bind_s]
  dsimp only
  rw [e4, bind_s]
  dsimp only
  rw [e5, bind_s]
  exact ⟨d, c, m', rfl, m5, m4, okM_of m3⟩

noncomputable def hitB (c : List Int) (d : List (List Bool)) (y : List Int) : Bool := inB d y && (valZ c y y.length == lowT c d d.length)

theorem law_FnLowerBound {a : List Int} (ha : ∀ x ∈ a, 0 ≤ x ∧ x ≤ 255) : laws_FnLowerBound a = some true := by
  unfold laws_FnLowerBound
  by_cases h0 : 1048576 < (a.length : Int)
  · rw [cdec_pos h0]
  rw [cdec_neg h0]
  obtain ⟨d, c, m, e1, hd0, hc, hm0⟩ := spec_DrawLowerBound_ok ha
  have hs := hm0.small
  have hds := hd0.small
  rw [e1, bind_s]
  dsimp only
  rw [impl_LowerBound_eq m c d hs hds (by omega), bind_s, spec_LowerBound_eq m c d hs hds (by omega), bind_s, bne_self_eq_false, cff, bne_self_eq_false, cff]
  cases hq : domB m d && (objB m c && !emptyB d) with
  | false =>
    have e : lowV m c d = (0, false) := by unfold lowV; rw [hq, cff]
    rw [e]
    rfl
  | true =>
    have e : lowV m c d = (lowT c d d.length, true) := by unfold lowV; rw [hq, ctt]
    rw [e]
    simp only [Bool.and_eq_true, Bool.not_eq_true'] at hq
    obtain ⟨hd, ho, he⟩ := hq
    obtain ⟨hm, d2, d3⟩ := domB_row hd
    obtain ⟨m1, m2, m3⟩ := modB_len hm
    have hz : cellsB m (zeroF m) = true := zero_cells hm
    dsimp only
    rw [Bool.not_true, cff, rq_pos ⟨by omega, by simp only [bound]; omega, rfl⟩, Int.toNat_natCast, show impl_NextModel (m.1, []) (List.replicate m.1.length 0) = some (nextV (freeM m) (zeroF m)) from impl_NextModel_eq (freeM m) _ (free_small hs) (by rw [List.length_replicate]; omega), bind_s, free_next hm hz]
    have ev : ∀ y, cellsB m y = true → objV m c y = (valZ c y y.length, true) := fun y hy => by unfold objV; rw [hm, ho, hy, Bool.true_and, Bool.true_and, ctt]
    have ein : ∀ y, cellsB m y = true → impl_CellsIn m d y = some (inB d y) := fun y hy => by
      rw [impl_CellsIn_eq m d y hs hds (by have := (cells_dig hy).1; omega)]
      unfold cellsInB
      rw [hd, hy, Bool.true_and, Bool.true_and]
    have eall : (allF m (zeroF m)).any (hitB c d) = true := by
      obtain ⟨a1, a2, a3⟩ := argL_ok (c := c) hd he
      refine List.any_eq_true.2 ⟨argL c d, (mem_all hm).2 a1, ?_⟩
      unfold hitB
      rw [a2, argL_len, a3 _ (Nat.le_refl _), beq_self_eq_true]
      rfl
    refine (loop_fn (f := laws_FnLowerBound_l1 (d, c, m) (lowT c d d.length, true)) (fun s : Bool × Bool × List Int => s.2.1 = true → cellsB m s.2.2 = true) (fun s => bif s.2.1 then muF s.2.2 + 1 else 0) (fun s => s.1 || bif s.2.1 then (allF m s.2.2).any (hitB c d) else false) ?_ _ (fun _ => hz)).trans (by dsimp only; rw [ctt, eall]; rfl)
    rintro ⟨i, more, y⟩ hinv
    dsimp only at hinv ⊢
    unfold laws_FnLowerBound_l1
    dsimp only
    cases more with
    | false =>
      right
      rw [cff, cff, Bool.or_false]
    | true =>
      left
      have hy := hinv rfl
      obtain ⟨y1, y2⟩ := cells_dig hy
      have j1 : ∀ b, laws_FnLowerBound_j1 (d, c, m) y b = some (.inl (b, (afterV (freeM m) y).1, (afterV (freeM m) y).2)) := fun b => by
        unfold laws_FnLowerBound_j1
        dsimp only
        rw [show laws_cpAfter (m.1, []) y = some (afterV (freeM m) y) from cpAfter_eq (m := freeM m) (free_small hs) (free_mod hm) hy, bind_s]
      have j2 : laws_FnLowerBound_j2 (d, c, m) (lowT c d d.length, true) i y (valZ c y y.length, true) () = some (.inl (i || hitB c d y, (afterV (freeM m) y).1, (afterV (freeM m) y).2)) := by
        unfold laws_FnLowerBound_j2 hitB
        dsimp only
        rw [ein y hy, bind_s, j1, j1, j1]
        cases i with
        | true => rw [ctt]; rfl
        | false =>
          rw [cff, Bool.false_or]
          cases inB d y with
          | true => rw [ctt, Bool.true_and]
          | false => rw [cff, Bool.false_and]
      refine ⟨(i || hitB c d y, (afterV (freeM m) y).1, (afterV (freeM m) y).2), ?_, ?_, ?_, ?_⟩
      · rw [ctt, impl_ObjectiveValue_eq m c _ hs (by omega) (by omega), bind_s, ev _ hy, ein y hy, bind_s, j2]
        dsimp only
        cases hin : inB d y with
        | false => rw [cff]
        | true =>
          have := low_le (c := c) hd hy hin d.length (Nat.le_refl _)
          rw [ctt, Bool.not_true, cff, cdec_neg (by rw [y1, ← d2]; omega)]
      · dsimp only
        rw [free_after hm hy]
        cases hq : (nextF m y).1 with
        | true => rw [ctt]; exact fun _ => next_ok hy
        | false => rw [cff]; intro h; cases h
      · dsimp only
        rw [free_after hm hy, ctt]
        cases hq : (nextF m y).1 with
        | true => rw [ctt]; dsimp only; rw [ctt]; have := next_mu hm hy hq; omega
        | false => rw [cff]; dsimp only; rw [cff]; omega
      · dsimp only
        rw [free_after hm hy, ctt, all_step hm hy, List.any_cons, Bool.or_assoc]
        cases hq : (nextF m y).1 with
        | true => rw [ctt, ctt]; rfl
        | false => rw [cff, cff]; rfl

end Go.AE.Y
