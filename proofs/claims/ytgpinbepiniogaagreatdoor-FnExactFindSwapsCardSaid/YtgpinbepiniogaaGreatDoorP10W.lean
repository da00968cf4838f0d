/-
  Plain laws: exchanges of cells are found alike on both sides, and completely.
-/
import Derived.Test.YtgpinbepiniogaaGreatDoorPx1
namespace Go.AE.Y
open Go Go.AE

def swapP (n i k : Nat) : List Int := ((nums n).set i k).set k i
theorem swapP_len (n i k : Nat) : (swapP n i k).length = n := by unfold swapP; rw [List.length_set, List.length_set, nums_len]
theorem swapP_get {n i k j : Nat} (hj : j < n) (hi : i < n) (hk : k < n) (hne : i ≠ k) : (swapP n i k).getD j 0 = if j = i then (k : Int) else if j = k then (i : Int) else j := by
 unfold swapP
 rw [List.getD_eq_getElem?_getD]
 by_cases h1 : j = k
 ·subst h1
  rw [List.getElem?_set_self (by rw [List.length_set, nums_len]; exact hj), if_neg (by omega), if_pos rfl]
  rfl
 ·rw [List.getElem?_set_ne (by omega)]
  by_cases h2 : j = i
  ·subst h2
   rw [List.getElem?_set_self (by rw [nums_len]; exact hj), if_pos rfl]
   rfl
  ·rw [List.getElem?_set_ne (by omega), if_neg h2, if_neg h1, ← List.getD_eq_getElem?_getD, nums_get hj]

def pairsW (m : ModT) (i k : Nat) : List (List Int) := ((List.range k).filter (fun q => decide (i < q) && symB m (swapP m.1.length i q))).map (fun q : Nat => [(i : Int), (q : Int)])
def swapsF (m : ModT) (i : Nat) : List (List Int) := (List.range i).flatMap (fun j => pairsW m j m.1.length)

theorem pairsW_len (m : ModT) (i k : Nat) : (pairsW m i k).length ≤ k := by
 unfold pairsW
 rw [List.length_map]
 exact Nat.le_trans (List.length_filter_le _ _) (Nat.le_of_eq List.length_range)
theorem pairsW_start (m : ModT) (i : Nat) : pairsW m i (i + 1) = [] := by
 unfold pairsW
 rw [List.map_eq_nil_iff, List.filter_eq_nil_iff]
 intro q hq
 rw [List.mem_range] at hq
 rw [decide_eq_false (by omega), Bool.false_and]
 exact Bool.false_ne_true
theorem pairsW_succ {m : ModT} {i k : Nat} (h : i < k) : pairsW m i (k + 1) = bif symB m (swapP m.1.length i k) then pairsW m i k ++ [[(i : Int), (k : Int)]] else pairsW m i k := by
 unfold pairsW
 rw [List.range_succ, List.filter_append, List.map_append]
 rw [List.filter_cons, List.filter_nil, decide_eq_true h, Bool.true_and]
 cases symB m (swapP m.1.length i k) with
 | true => rw [ctt]; rfl
 | false => rw [cff]; simp
theorem swapsF_succ (m : ModT) (i : Nat) : swapsF m (i + 1) = swapsF m i ++ pairsW m i m.1.length := by
 unfold swapsF
 rw [List.range_succ, List.flatMap_append]
 simp
theorem swapsF_len (m : ModT) : ∀ i, (swapsF m i).length ≤ i * m.1.length
 | 0 => Nat.zero_le _
 | i + 1 => by
  have := swapsF_len m i
  have := pairsW_len m i m.1.length
  rw [swapsF_succ, List.length_append, Nat.succ_mul]
  omega

theorem pairs_loop {R : Type} {m : ModT} (hn : m.1.length ≤ 5) {f1 : Int × List (List Int) → Option ((Int × List (List Int)) ⊕ R)} {f2 : Int → Int × List (List Int) → Option ((Int × List (List Int)) ⊕ ((Int × List (List Int)) ⊕ R))} {fin : List (List Int) → R}
  (h1 : ∀ (i : Nat) out, i < m.1.length → f1 (i, out) = loop (f2 i) ((i : Int) + 1, out)) (h2 : ∀ out, f1 (m.1.length, out) = some (.inr (fin out)))
  (h3 : ∀ (i k : Nat) out, i < k → k < m.1.length → out.length ≤ 1000 → f2 i (k, out) = some (.inl ((k : Int) + 1, bif symB m (swapP m.1.length i k) then out ++ [[(i : Int), (k : Int)]] else out)))
  (h4 : ∀ (i : Nat) out, i < m.1.length → f2 i (m.1.length, out) = some (.inr (.inl ((i : Int) + 1, out)))) : loop f1 ((0 : Int), []) = some (fin (swapsF m m.1.length)) := by
 refine loop_fn (f := f1) (fun s : Int × List (List Int) => ∃ i : Nat, s.1 = i ∧ i ≤ m.1.length ∧ s.2 = swapsF m i) (fun s => m.1.length - s.1.toNat) (fun _ => fin (swapsF m m.1.length)) ?_ _ ⟨0, rfl, Nat.zero_le _, rfl⟩
 rintro ⟨s, out⟩ ⟨i, hi, hle, ho⟩
 dsimp only at hi ho ⊢
 subst hi ho
 rcases Nat.lt_or_ge i m.1.length with h5 | h5
 ·left
  have hsl : (swapsF m i).length ≤ 25 := Nat.le_trans (swapsF_len m i) (Nat.mul_le_mul (by omega : i ≤ 5) hn)
  have key : loop (f2 i) ((i : Int) + 1, swapsF m i) = some (.inl ((i : Int) + 1, swapsF m (i + 1))) := by
   refine loop_fn (f := f2 i) (fun s : Int × List (List Int) => ∃ k : Nat, s.1 = k ∧ i < k ∧ k ≤ m.1.length ∧ s.2 = swapsF m i ++ pairsW m i k) (fun s => m.1.length - s.1.toNat) (fun _ => .inl ((i : Int) + 1, swapsF m (i + 1))) ?_ _ ⟨i + 1, by simp, by omega, by omega, by rw [pairsW_start, List.append_nil]⟩
   rintro ⟨s, out⟩ ⟨k, hk, hik, hkl, ho⟩
   dsimp only at hk ho ⊢
   subst hk ho
   rcases Nat.lt_or_ge k m.1.length with h6 | h6
   ·left
    have hpl := pairsW_len m i k
    refine ⟨_, h3 i k _ hik h6 (by rw [List.length_append]; omega), ⟨k + 1, by simp, by omega, by omega, ?_⟩, by (try dsimp only) <;> omega, rfl⟩
    dsimp only
    rw [pairsW_succ hik]
    cases symB m (swapP m.1.length i k) with
    | true => rw [ctt, ctt, List.append_assoc]
    | false => rw [cff, cff]
   ·right
    have : k = m.1.length := by omega
    subst this
    rw [h4 i _ h5, swapsF_succ]
  rw [h1 i _ h5, key]
  exact ⟨_, rfl, ⟨i + 1, by simp, by omega, rfl⟩, by (try dsimp only) <;> omega, rfl⟩
 ·right
  have : i = m.1.length := by omega
  subst this
  exact h2 _

theorem impl_pair {m : ModT} (h : smallM m) (hn : m.1.length ≤ 5) {i k : Nat} (hik : i < k) (hk : k < m.1.length) {out : List (List Int)} (ho : out.length ≤ 1000) :
  impl_FindSwaps_l2 m i (k, out) = some (.inl ((k : Int) + 1, bif symB m (swapP m.1.length i k) then out ++ [[(i : Int), (k : Int)]] else out)) := by
 unfold impl_FindSwaps_l2
 dsimp only
 have hj : impl_FindSwaps_j1 m i k out (nums m.1.length) = some (.inl ((k : Int) + 1, bif symB m (swapP m.1.length i k) then out ++ [[(i : Int), (k : Int)]] else out)) := by
  unfold impl_FindSwaps_j1
  have hl := nums_len m.1.length
  rw [rq_pos ⟨by omega, by omega⟩, Int.toNat_natCast, rq_pos ⟨by omega, by rw [List.length_set]; omega⟩, Int.toNat_natCast]
  have e : impl_SymmetryValid m (((nums m.1.length).set i k).set k i) = some (symB m (swapP m.1.length i k)) := impl_SymmetryValid_eq m (swapP m.1.length i k) h (by rw [swapP_len]; omega)
  rw [e, bind_s]
  cases symB m (swapP m.1.length i k) with
  | true => rw [ctt, ctt, rq_pos (by simp only [bound, List.length_cons, List.length_nil]; omega), rq_i64 (by omega) (by omega)]
  | false => rw [cff, cff, rq_i64 (by omega) (by omega)]
 rw [cdec_pos (by omega)]
 have hnum : nums m.1.length = (List.range m.1.length).map Int.ofNat := rfl
 refine (loop_push_map (f := impl_FindSwaps_l3 m i k out) (List.range m.1.length) 0 Int.ofNat [] (fun _ => .inl ((k : Int) + 1, bif symB m (swapP m.1.length i k) then out ++ [[(i : Int), (k : Int)]] else out)) (fun q o hq hl => ?_) ?_)
 ·rw [List.length_range] at hq
  unfold impl_FindSwaps_l3
  dsimp only
  rw [cdec_pos (by omega), rq_pos (by simp only [bound, List.length_cons, List.length_nil]; simp at hl; omega), rq_i64 (by omega) (by omega)]
  rw [List.getD_eq_getElem?_getD, List.getElem?_range hq]
  rfl
 ·unfold impl_FindSwaps_l3
  dsimp only
  rw [List.length_range, cdec_neg (by omega), List.nil_append, ← hnum, hj]
  rfl

theorem impl_FindSwaps_eq {m : ModT} (h : smallM m) : impl_FindSwaps m = some (bif modB m then swapsF m m.1.length else []) := by
 unfold impl_FindSwaps
 rw [impl_ModelValid_eq m h, bind_s]
 cases hm : modB m with
 | false => rw [Bool.not_false, ctt, cff]
 | true =>
  have hn := modB_len hm
  rw [Bool.not_true, cff, ctt]
  refine pairs_loop (f1 := impl_FindSwaps_l1 m) (f2 := impl_FindSwaps_l2 m) (fin := fun o => o) (by omega) (fun i out hi => ?_) (fun out => ?_) (fun i k out hik hk ho => impl_pair h (by omega) hik hk ho) (fun i out hi => ?_)
  ·unfold impl_FindSwaps_l1
   dsimp only
   rw [cdec_pos (by omega), rq_i64 (by omega) (by omega)]
  ·unfold impl_FindSwaps_l1
   dsimp only
   rw [cdec_neg (by omega)]
  ·unfold impl_FindSwaps_l2
   dsimp only
   rw [cdec_neg (by omega), rq_i64 (by omega) (by omega)]

theorem spec_swap_eq {n i k : Nat} (hik : i < k) (hk : k < n) (hn : n ≤ 5) : spec_l10Swap n i k = some (swapP n i k) := by
 unfold spec_l10Swap
 refine loop_fn (f := spec_l10Swap_l1 n i k) (fun s : Int × List Int => ∃ j : Nat, s.1 = j ∧ j ≤ n ∧ s.2 = (swapP n i k).take j) (fun s => n - s.1.toNat) (fun _ => swapP n i k) ?_ _ ⟨0, rfl, Nat.zero_le _, rfl⟩
 rintro ⟨s, out⟩ ⟨j, hj, hle, ho⟩
 dsimp only at hj ho ⊢
 subst hj ho
 unfold spec_l10Swap_l1
 dsimp only
 have hsl := swapP_len n i k
 have htl : ((swapP n i k).take j).length ≤ 5 := by rw [List.length_take]; omega
 rcases Nat.lt_or_ge j n with h1 | h1
 ·left
  have hst := take_snocG (l := swapP n i k) (n := j) 0 (by omega)
  have hg := swapP_get h1 (by omega : i < n) hk (by omega)
  rw [cdec_pos (by omega)]
  by_cases h2 : j = i
  ·rw [cbeq_pos (by omega), rq_pos (by simp only [bound, List.length_cons, List.length_nil]; omega), rq_i64 (by omega) (by omega)]
   refine ⟨_, rfl, ⟨j + 1, by simp, by omega, ?_⟩, by (try dsimp only) <;> omega, rfl⟩
   dsimp only
   rw [hst, hg, if_pos h2]
  ·rw [cbeq_neg (by omega)]
   by_cases h3 : j = k
   ·rw [cbeq_pos (by omega), rq_pos (by simp only [bound, List.length_cons, List.length_nil]; omega), rq_i64 (by omega) (by omega)]
    refine ⟨_, rfl, ⟨j + 1, by simp, by omega, ?_⟩, by (try dsimp only) <;> omega, rfl⟩
    dsimp only
    rw [hst, hg, if_neg h2, if_pos h3]
   ·rw [cbeq_neg (by omega), rq_pos (by simp only [bound, List.length_cons, List.length_nil]; omega), rq_i64 (by omega) (by omega)]
    refine ⟨_, rfl, ⟨j + 1, by simp, by omega, ?_⟩, by (try dsimp only) <;> omega, rfl⟩
    dsimp only
    rw [hst, hg, if_neg h2, if_neg h3]
 ·right
  have : j = n := by omega
  subst this
  rw [cdec_neg (by omega), List.take_of_length_le (by omega)]

theorem spec_FindSwaps_eq {m : ModT} (h : smallM m) : spec_FindSwaps m = some (bif modB m then swapsF m m.1.length else []) := by
 unfold spec_FindSwaps
 have hsl := h.1
 cases hm : modB m with
 | false =>
  rw [cff]
  refine loop_fn (f := spec_FindSwaps_l1 m) (fun s : Int × List (List Int) => s = (0, [])) (fun _ => 0) (fun _ => []) ?_ _ rfl
  rintro s rfl
  right
  unfold spec_FindSwaps_l1
  dsimp only
  rcases Nat.eq_zero_or_pos m.1.length with h0 | h0
  ·rw [cdec_neg (by omega)]
  ·rw [cdec_pos (by omega), spec_ModelValid_eq m h, hm, bind_s, cff]
 | true =>
  have hn := modB_len hm
  rw [ctt]
  refine pairs_loop (f1 := spec_FindSwaps_l1 m) (f2 := spec_FindSwaps_l2 m) (fin := fun o => o) (by omega) (fun i out hi => ?_) (fun out => ?_) (fun i k out hik hk ho => ?_) (fun i out hi => ?_)
  ·unfold spec_FindSwaps_l1
   dsimp only
   rw [cdec_pos (by omega), spec_ModelValid_eq m h, hm, bind_s, ctt, rq_i64 (by omega) (by omega)]
  ·unfold spec_FindSwaps_l1
   dsimp only
   rw [cdec_neg (by omega)]
  ·unfold spec_FindSwaps_l2
   dsimp only
   rw [cdec_pos (by omega), spec_swap_eq hik hk (by omega), bind_s, spec_SymmetryValid_eq m _ h (by rw [swapP_len]; omega), bind_s]
   cases symB m (swapP m.1.length i k) with
   | true => rw [ctt, ctt, rq_pos (by simp only [bound, List.length_cons, List.length_nil]; omega), rq_i64 (by omega) (by omega)]
   | false => rw [cff, cff, rq_i64 (by omega) (by omega)]
  ·unfold spec_FindSwaps_l2
   dsimp only
   rw [cdec_neg (by omega), rq_i64 (by omega) (by omega)]

theorem mem_swapsF {m : ModT} {n : Nat} {x : List Int} : x ∈ swapsF m n ↔ ∃ i k : Nat, i < n ∧ i < k ∧ k < m.1.length ∧ symB m (swapP m.1.length i k) = true ∧ x = [(i : Int), (k : Int)] := by
 unfold swapsF pairsW
 rw [List.mem_flatMap]
 constructor
 ·rintro ⟨i, hi, hx⟩
  obtain ⟨k, hk, rfl⟩ := List.mem_map.1 hx
  rw [List.mem_filter, Bool.and_eq_true, decide_eq_true_eq, List.mem_range] at hk
  exact ⟨i, k, List.mem_range.1 hi, hk.2.1, hk.1, hk.2.2, rfl⟩
 ·rintro ⟨i, k, h1, h2, h3, h4, rfl⟩
  refine ⟨i, List.mem_range.2 h1, List.mem_map.2 ⟨k, ?_, rfl⟩⟩
  rw [List.mem_filter, Bool.and_eq_true, decide_eq_true_eq, List.mem_range]
  exact ⟨h3, h2, h4⟩

def swapsB (m : ModT) : List (List Int) := bif modB m then swapsF m m.1.length else []
theorem swapsB_small (m : ModT) : (swapsB m).length ≤ 25 ∧ ∀ x ∈ swapsB m, x.length = 2 := by
 unfold swapsB
 cases hm : modB m with
 | false => rw [cff]; exact ⟨Nat.zero_le _, fun x hx => by cases hx⟩
 | true =>
  have hn := modB_len hm
  rw [ctt]
  refine ⟨Nat.le_trans (swapsF_len m _) (Nat.mul_le_mul hn.2.1 hn.2.1), fun x hx => ?_⟩
  obtain ⟨i, k, _, _, _, _, rfl⟩ := mem_swapsF.1 hx
  rfl

theorem mark2_same : laws_markIntSS_2 = laws_markIntSS := rfl

theorem law_FnExactFindSwaps (m : ModT) (h : okD tyModel m) : laws_FnExactFindSwaps m = some true := by
 unfold laws_FnExactFindSwaps
 obtain ⟨r, e1, e2⟩ := szModel_ex m h
 rw [e1, bind_s]
 by_cases hr : r < 0
 ·rw [cdec_pos hr]
 have hs : smallM m := e2.resolve_left hr
 obtain ⟨q1, q2⟩ := swapsB_small m
 have ei : impl_FindSwaps m = some (swapsB m) := impl_FindSwaps_eq hs
 have es : spec_FindSwaps m = some (swapsB m) := spec_FindSwaps_eq hs
 have eS := eqIntSS_same (swapsB m) (by omega) (fun x hx => by have := q2 x hx; omega)
 obtain ⟨r1, m1, m2, m3, _⟩ := markModel_ex m hs
 obtain ⟨r2, k1, k2, k3, k4, k5⟩ := markIntSS_held (swapsB m) 1 ⟨by omega, by omega⟩ (by omega) (fun x hx => by have := q2 x hx; omega)
 have hh := heldIntSS_at k2 (by omega) (by omega) (by omega)
 rw [cdec_neg hr, toModel_eq m hs, bind_s, es, bind_s, bind_s, ei, bind_s, eS, bind_s, Bool.not_true, cff, bind_s, eqModel_self m hs, bind_s, Bool.not_true, cff]
 unfold laws_FnExactFindSwaps_j1
 rw [m1, bind_s, cdec_neg (by omega), eS, bind_s, Bool.not_true, cff, mark2_same, k1, bind_s, hh, bind_s, cdec_neg (by omega), cbne_neg rfl, toModel_eq m hs, bind_s, ei, bind_s, eS, bind_s, Bool.not_true, cff, bind_s, cdec_neg (by omega), cbne_neg rfl]

end Go.AE.Y
