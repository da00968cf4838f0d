/-
  Plain laws of the models, in one text. No conditions.
-/
import Derived.Test.YtgpinbepiniogaaGreatDoorPx1
import Derived.Test.YtgpinbepiniogaaGreatDoorRAM
namespace Go.AE.Y
open Go Go.AE

theorem picked_eq {l o : List Int} (h : ∀ x ∈ o, 0 ≤ x ∧ x < l.length) (ho : o.length ≤ 1048576) : impl_Rule_canonical_2__Rs l o = some (pickF o l) := by
 unfold impl_Rule_canonical_2__Rs
 refine (loop_push_map (f := impl_Rule_canonical_2__Rs_l1 l o) o 0 (fun v => l.getD v.toNat 0) [] id (fun i out hi hl => ?_) ?_).trans (by rw [List.nil_append]; rfl)
 ·have hx := h _ (getD_memG (d := 0) hi)
  unfold impl_Rule_canonical_2__Rs_l1
  dsimp only
  rw [cdec_pos (by omega), rq_pos ⟨by omega, by omega⟩, Int.toNat_natCast, rq_pos ⟨by omega, by omega⟩, rq_pos (by simp only [bound, List.length_cons, List.length_nil]; simp at hl; omega), rq_i64 (by omega) (by omega)]
 ·unfold impl_Rule_canonical_2__Rs_l1
  dsimp only
  rw [cdec_neg (by omega)]
  rfl

theorem cmp_eq (x y : Int) : cmp_Compare_int x y = some (bif decide (x < y) then -1 else bif decide (y < x) then 1 else 0) := by
 have h1 : (x != x) = false := bne_self_eq_false x
 have h2 : (y != y) = false := bne_self_eq_false y
 unfold cmp_Compare_int cmp_isNaN_int
 rw [h1, h2, bind_s, bind_s, cff, cff]
 cases decide (x < y) with
 | true => rw [ctt, ctt]
 | false =>
  rw [cff, cff]
  cases decide (y < x) with
  | true => rw [ctt, ctt]
  | false => rw [cff, cff]

theorem Compare_eq {a b : List Int} (hl : a.length = b.length) (ha : digB a = true) (hb : digB b = true) (hs : a.length ≤ 1048576) : ∃ v, slices_Compare_int a b = some v ∧ (v < 0 ↔ rowK a < rowK b) := by
 unfold slices_Compare_int
 refine loop_ex (f := slices_Compare_int_l1 a b) (fun s : Int => ∃ i : Nat, s = i ∧ i ≤ a.length ∧ ∀ j, j < i → a.getD j 0 = b.getD j 0) (fun s => a.length - s.toNat) (fun v => v < 0 ↔ rowK a < rowK b) ?_ _ ⟨0, rfl, Nat.zero_le _, fun j hj => by omega⟩
 rintro s ⟨i, rfl, hi, he⟩
 unfold slices_Compare_int_l1
 rcases Nat.lt_or_ge i a.length with h1 | h1
 ·rw [cdec_pos (by omega), rq_pos ⟨by omega, by omega⟩, cdec_neg (by omega), rq_pos ⟨by omega, by omega⟩, cmp_eq, bind_s, Int.toNat_natCast]
  by_cases h2 : a.getD i 0 < b.getD i 0
  ·right
   rw [decide_eq_true h2, ctt, cbne_pos (by decide)]
   exact ⟨_, rfl, iff_of_true (by decide) (rowK_first hl ha hb h1 he h2)⟩
  ·rw [decide_eq_false h2, cff]
   by_cases h3 : b.getD i 0 < a.getD i 0
   ·right
    rw [decide_eq_true h3, ctt, cbne_pos (by decide)]
    have := rowK_first hl.symm hb ha (by omega) (fun j hj => (he j hj).symm) h3
    exact ⟨_, rfl, iff_of_false (by decide) (by omega)⟩
   ·left
    rw [decide_eq_false h3, cff, cbne_neg rfl, rq_i64 (by omega) (by omega)]
    refine ⟨_, rfl, ⟨i + 1, by simp, by omega, fun j hj => ?_⟩, by omega⟩
    rcases Nat.lt_or_ge j i with h4 | h4
    ·exact he j h4
    ·rw [show j = i by omega]; omega
 ·right
  have : i = a.length := by omega
  subst this
  rw [cdec_neg (by omega), cdec_neg (by omega)]
  have e : a = b := by
   refine List.ext_getElem hl (fun j j1 j2 => ?_)
   have := he j j1
   rw [List.getD_eq_getElem?_getD, List.getElem?_eq_getElem j1, List.getD_eq_getElem?_getD, List.getElem?_eq_getElem j2] at this
   exact this
  subst e
  exact ⟨_, rfl, iff_of_false (by decide) (by omega)⟩

theorem sort_rows {n : Nat} {l : List (List Int)} (h : RowsOk n l) (hn : n ≤ 1048576) (hl : l.length ≤ 1048576) : sortI slices_Compare_int l = some (l.mergeSort fun x y => decide (rowK x ≤ rowK y)) :=
 sortI_by (key := rowK) (by omega) (fun x hx y hy => Compare_eq ((h x hx).1.trans (h y hy).1.symm) (h x hx).2 (h y hy).2 (by have := (h x hx).1; omega)) h.inj

theorem CompactRows_eq (s : List (List Int)) (hn : s.length ≤ 4000000000) (hs : ∀ x ∈ s, x.length ≤ 1048576) : slices_CompactFunc_s_int__slices_Equal_int__s s = some (onceF [] s s.length) := by
 have hsx : ∀ k, (s.getD k []).length ≤ 1048576 := fun k => by
  rcases Nat.lt_or_ge k s.length with h | h
  ·exact hs _ (getD_memG h)
  ·rw [List.getD_eq_getElem?_getD, List.getElem?_eq_none h]; exact Nat.zero_le _
 have h1 : ∀ n, 1 ≤ n → n ≤ s.length → (∀ k, 1 ≤ k → k < n → s.getD k [] ≠ s.getD (k - 1) []) → onceF [] s n = s.take n := by
  intro n
  induction n with
  | zero => intro h; omega
  | succ n ih =>
   intro _ h2 h3
   rw [take_snocG (l := s) (n := n) [] (by omega)]
   unfold onceF
   rcases Nat.lt_or_ge 0 n with h4 | h4
   ·rw [if_neg (fun h => h3 n h4 (by omega) h.2), ih h4 (by omega) (fun k k1 k2 => h3 k k1 (by omega))]
   ·have : n = 0 := by omega
    subst this
    rw [if_neg (fun h => absurd h.1 (by omega))]
    rfl
 unfold slices_CompactFunc_s_int__slices_Equal_int__s
 rcases Nat.lt_or_ge s.length 2 with h2 | h2
 ·rw [cdec_pos (by omega)]
  rcases Nat.lt_or_ge 0 s.length with h3 | h3
  ·rw [h1 s.length h3 (Nat.le_refl _) (fun k k1 k2 => by omega), List.take_length]
  ·have : s = [] := List.eq_nil_of_length_eq_zero (by omega)
   subst this
   rfl
 rw [cdec_neg (by omega)]
 refine loop_fn (f := slices_CompactFunc_s_int__slices_Equal_int__s_l1 s) (fun t : Int => ∃ n : Nat, t = n ∧ 1 ≤ n ∧ n ≤ s.length ∧ ∀ k, 1 ≤ k → k < n → s.getD k [] ≠ s.getD (k - 1) []) (fun t => s.length - t.toNat) (fun _ => onceF [] s s.length) ?_ _ ⟨1, rfl, by omega, by omega, fun k k1 k2 => by omega⟩
 rintro t ⟨n, rfl, n1, n2, n3⟩
 unfold slices_CompactFunc_s_int__slices_Equal_int__s_l1
 rcases Nat.lt_or_ge n s.length with h3 | h3
 ·rw [cdec_pos (by omega), rq_pos ⟨by omega, by omega⟩, rq_i64 (by omega) (by omega), rq_pos ⟨by omega, by omega⟩, Int.toNat_natCast, show ((n : Int) - 1).toNat = n - 1 by omega, Equal_int_eq _ _ (hsx n), bind_s]
  by_cases q : s.getD n [] = s.getD (n - 1) []
  ·right
   rw [beq_iff_eq.2 q, ctt, rq_pos ⟨by omega, by omega⟩]
   have e0 : onceF [] s (n + 1) = s.take n := by
    unfold onceF
    rw [if_pos ⟨n1, q⟩, h1 n n1 n2 n3]
   refine loop_fn (f := slices_CompactFunc_s_int__slices_Equal_int__s_l2 n) (fun t : Int × Int × List (List Int) => ∃ b : Nat, t.2.1 = b ∧ 1 ≤ b ∧ n + b ≤ s.length ∧ t.1 = (onceF [] s (n + b)).length ∧ (onceF [] s (n + b)).length + 1 ≤ n + b ∧ t.2.2.length = s.length ∧ t.2.2.take (onceF [] s (n + b)).length = onceF [] s (n + b) ∧ ∀ j, n + b ≤ j + 1 → t.2.2.getD j [] = s.getD j []) (fun t => s.length - t.2.1.toNat) (fun _ => .inr (onceF [] s s.length)) ?_ _ ⟨1, rfl, Nat.le_refl _, by omega, ?_, ?_, rfl, ?_, fun _ _ => rfl⟩
   ·rintro ⟨k1, k2, a⟩ ⟨b, hb, b1, b2, b3, b4, b5, b6, b7⟩
    dsimp only at hb b3 b5 b6 b7 ⊢
    subst hb
    subst b3
    unfold slices_CompactFunc_s_int__slices_Equal_int__s_l2
    dsimp only
    rcases Nat.lt_or_ge (n + b) s.length with h4 | h4
    ·left
     have e1 : ((n : Int) + (b : Int)).toNat = n + b := by omega
     have e2 : ((n : Int) + ((b : Int) - 1)).toNat = n + b - 1 := by omega
     rw [cdec_pos (by omega), rq_pos ⟨by omega, by omega⟩, rq_i64 (by omega) (by omega), rq_pos ⟨by omega, by omega⟩, e1, e2, b7 (n + b) (by omega), b7 (n + b - 1) (by omega), Equal_int_eq _ _ (hsx _), bind_s]
     by_cases q2 : s.getD (n + b) [] = s.getD (n + b - 1) []
     ·have e3 : onceF [] s (n + (b + 1)) = onceF [] s (n + b) := by
       show onceF [] s (n + b + 1) = _
       conv => lhs; unfold onceF
       rw [if_pos ⟨by omega, q2⟩]
      rw [beq_iff_eq.2 q2, Bool.not_true, cff, rq_i64 (by omega) (by omega)]
      refine ⟨_, rfl, ⟨b + 1, by simp, by omega, by omega, ?_, ?_, b5, ?_, fun j hj => b7 j (by omega)⟩, by (try dsimp only) <;> omega, rfl⟩
      ·rw [e3]
      ·rw [e3]; omega
      ·rw [e3]; exact b6
     ·have e3 : onceF [] s (n + (b + 1)) = onceF [] s (n + b) ++ [s.getD (n + b) []] := by
       show onceF [] s (n + b + 1) = _
       conv => lhs; unfold onceF
       rw [if_neg (fun h => q2 h.2)]
      have e4 : (onceF [] s (n + (b + 1))).length = (onceF [] s (n + b)).length + 1 := by rw [e3, List.length_append, List.length_singleton]
      rw [beq_eq_false_iff_ne.2 q2, Bool.not_false, ctt, rq_pos ⟨by omega, by omega⟩, rq_pos ⟨by omega, by omega⟩, rq_i64 (by omega) (by omega), rq_i64 (by omega) (by omega), Int.toNat_natCast]
      refine ⟨_, rfl, ⟨b + 1, by simp, by omega, by omega, ?_, ?_, ?_, ?_, fun j hj => ?_⟩, by (try dsimp only) <;> omega, rfl⟩
      ·rw [e4]; simp
      ·rw [e4]; omega
      ·dsimp only; rw [List.length_set]; exact b5
      ·dsimp only
       rw [e4, List.take_add_one, List.take_set_of_le (Nat.le_refl _), b6, List.getElem?_set_self (by omega), e3]
       rfl
      ·dsimp only
       rw [List.getD_eq_getElem?_getD, List.getElem?_set_ne (by omega), ← List.getD_eq_getElem?_getD]
       exact b7 j (by omega)
    ·right
     have e : n + b = s.length := by omega
     unfold slices_CompactFunc_s_int__slices_Equal_int__s_j1
     dsimp only
     rw [e] at b4 b6 ⊢
     have hl : (a.take (onceF [] s s.length).length ++ List.replicate (a.length - (onceF [] s s.length).length) ([] : List Int)).length = s.length := by rw [List.length_append, List.length_take, List.length_replicate]; omega
     rw [cdec_neg (by omega), rq_pos ⟨by omega, by omega⟩, Int.toNat_natCast, hl, rq_pos ⟨by omega, by omega⟩, b6, List.take_left' rfl]
     rfl
   ·dsimp only
    rw [e0, List.length_take]; omega
   ·rw [e0, List.length_take]; omega
   ·dsimp only
    rw [e0, List.length_take, Nat.min_eq_left n2]
  ·left
   rw [beq_eq_false_iff_ne.2 q, cff, rq_i64 (by omega) (by omega)]
   refine ⟨_, rfl, ⟨n + 1, by simp, by omega, by omega, fun k k1 k2 => ?_⟩, by omega, rfl⟩
   rcases Nat.lt_or_ge k n with h | h
   ·exact n3 k k1 h
   ·rw [show k = n by omega]; exact q
 ·right
  have : n = s.length := by omega
  rw [cdec_neg (by omega), h1 s.length (by omega) (Nat.le_refl _) (by rw [← this]; exact n3), List.take_length]

theorem order_sorted {r : RuleT} (hs : smallR r) (hd : diffZ r.2.1) (hb : ∀ i, i < r.2.1.length → 0 ≤ r.2.1.getD i 0 ∧ r.2.1.getD i 0 ≤ 1000) : sortI (fun x y => impl_Rule_canonical_1 x y r) (nums r.2.1.length) = some (ordZ r.2.1) := by
 have hl := hs.1
 refine sortI_by (key := fun x : Int => r.2.1.getD x.toNat 0) (by rw [nums_len]; omega) (fun x hx y hy => ?_) (fun x hx y hy e => diffZ_mem hd (mem_nums.1 hx) (mem_nums.1 hy) e)
 have qx := mem_nums.1 hx
 have qy := mem_nums.1 hy
 have bx := hb x.toNat (by omega)
 have by_ := hb y.toNat (by omega)
 unfold impl_Rule_canonical_1
 rw [rq_pos ⟨by omega, by omega⟩, rq_pos ⟨by omega, by omega⟩, rq_i64 (by omega) (by omega)]
 exact ⟨_, rfl, by constructor <;> intro h <;> omega⟩

theorem rules_okV {m : ModT} (h : modB m = true) : ∀ r ∈ m.2, RuleOk m.1.length r := fun _ hr => ruleB_c.1 (modB_rule1 h hr)

def canV (r : RuleT) : Int × Int × List Int × List Int × List (List Int) := (r.1, r.2.2.2.1, r.2.1, r.2.2.1, r.2.2.2.2)

theorem impl_canonical_eq {n : Int} {r : RuleT} (hn : n ≤ 5) (hs : smallR r) (h : RuleOk n r) : impl_Rule_canonical r = some (canV (canB r)) := by
 unfold impl_Rule_canonical canB
 by_cases h4 : r.1 = 4
 ·rw [cbeq_pos h4, beq_iff_eq.2 h4, ctt, impl_Rule_own_eq r hs, bind_s]
  rfl
 rw [cbeq_neg h4, beq_eq_false_iff_ne.2 h4, cff]
 have hd := freshB_diff h.fresh
 have hr := freshB_rngd h.fresh
 have hsl := hs.1
 have ho : ∀ x ∈ ordZ r.2.1, 0 ≤ x ∧ x < r.2.1.length := fun x hx => mem_ordZ.1 hx
 have hol : (ordZ r.2.1).length ≤ 1048576 := by rw [ordZ_len]; exact hsl
 have hrows := h.rows
 have e4 : ∀ c : List Int, impl_Rule_canonical_j4 r (pickF (ordZ r.2.1) r.2.1) c (r.2.2.2.2.map (pickF (ordZ r.2.1))) = some (r.1, r.2.2.2.1, pickF (ordZ r.2.1) r.2.1, c, ascF (r.2.2.2.2.map (pickF (ordZ r.2.1)))) := fun c => by
  have hR := canR_rows h
  have hlm : (r.2.2.2.2.map (pickF (ordZ r.2.1))).length ≤ 1048576 := by rw [List.length_map]; exact hs.2.2.1
  have hms : ((r.2.2.2.2.map (pickF (ordZ r.2.1))).mergeSort fun x y => decide (rowK x ≤ rowK y)).length = (r.2.2.2.2.map (pickF (ordZ r.2.1))).length := List.length_mergeSort _
  unfold impl_Rule_canonical_j4
  rw [sort_rows hR hsl hlm, bind_s, CompactRows_eq _ (by omega) (fun x hx => by have := (hR x (List.mem_mergeSort.1 hx)).1; omega), bind_s, hms]
  rfl
 have e3 : ∀ c : List Int, impl_Rule_canonical_j3 r (ordZ r.2.1) (pickF (ordZ r.2.1) r.2.1) c = some (r.1, r.2.2.2.1, pickF (ordZ r.2.1) r.2.1, c, ascF (r.2.2.2.2.map (pickF (ordZ r.2.1)))) := fun c => by
  unfold impl_Rule_canonical_j3
  refine (loop_push_map (f := impl_Rule_canonical_l1 r (ordZ r.2.1) (pickF (ordZ r.2.1) r.2.1) c) r.2.2.2.2 [] (pickF (ordZ r.2.1)) [] (fun _ => (r.1, r.2.2.2.1, pickF (ordZ r.2.1) r.2.1, c, ascF (r.2.2.2.2.map (pickF (ordZ r.2.1))))) (fun i out hi hl => ?_) ?_)
  ·have hx := hrows _ (getD_memG (d := []) hi)
   have hm := hs.2.2.1
   unfold impl_Rule_canonical_l1
   dsimp only
   rw [cdec_pos (by omega), rq_pos ⟨by omega, by omega⟩, Int.toNat_natCast, picked_eq (fun x q => by rw [hx.1]; exact ho x q) hol, bind_s, rq_pos (by simp only [bound, List.length_cons, List.length_nil]; simp at hl; omega), rq_i64 (by omega) (by omega)]
  ·unfold impl_Rule_canonical_l1
   dsimp only
   rw [cdec_neg (by omega), List.nil_append, e4]
   rfl
 have e1 : impl_Rule_canonical_j1 r (nums r.2.1.length) = some (canV (canR r)) := by
  unfold impl_Rule_canonical_j1
  rw [order_sorted hs hd (fun i hi => by have := hr i hi; omega), bind_s, picked_eq ho hol, bind_s]
  unfold impl_Rule_canonical_j2
  by_cases h1 : r.1 = 1
  ·have hlin := lin_at h.kind h1
   rw [cbeq_pos h1, picked_eq (fun x q => by rw [hlin.1]; exact ho x q) hol, bind_s, e3]
   unfold canV canR
   dsimp only
   rw [beq_iff_eq.2 h1, ctt]
  ·rw [cbeq_neg h1, e3]
   unfold canV canR
   dsimp only
   rw [beq_eq_false_iff_ne.2 h1, cff]
 have hnum : nums r.2.1.length = (List.range r.2.1.length).map Int.ofNat := rfl
 refine (loop_push_map (f := impl_Rule_canonical_l2 r) (List.range r.2.1.length) 0 Int.ofNat [] (fun _ => canV (canR r)) (fun i out hi hl => ?_) ?_)
 ·rw [List.length_range] at hi
  unfold impl_Rule_canonical_l2
  dsimp only
  rw [cdec_pos (by omega), rq_pos (by simp only [bound, List.length_cons, List.length_nil]; simp at hl; omega), rq_i64 (by omega) (by omega)]
  rw [List.getD_eq_getElem?_getD, List.getElem?_range hi]
  rfl
 ·unfold impl_Rule_canonical_l2
  dsimp only
  rw [List.length_range, cdec_neg (by omega), List.nil_append, ← hnum, e1]
  rfl

theorem spec_order_in {v out : List Int} {i : Nat} (hi : i < v.length) (hv : v.length ≤ 1048576) (hd : diffZ v) (ha : out.Pairwise (fun x y => v.getD x.toNat 0 < v.getD y.toNat 0)) (hm : ∀ x, x ∈ out ↔ 0 ≤ x ∧ x < i) (hl : out.length = i) :
  ∃ out', loop (spec_l10Order_l2 v i out) (out.length : Int) = some (.inl ((i : Int) + 1, out')) ∧ out'.Pairwise (fun x y => v.getD x.toNat 0 < v.getD y.toNat 0) ∧ (∀ x, x ∈ out' ↔ 0 ≤ x ∧ x < i + 1) ∧ out'.length = i + 1 := by
 have fin : ∀ k : Nat, k ≤ out.length → (∀ j, k ≤ j → j < out.length → v.getD i 0 < v.getD (out.getD j 0).toNat 0) → (∀ j, j < k → v.getD (out.getD j 0).toNat 0 < v.getD i 0) →
   ∃ r, spec_l10Order_j1 i out k = some r ∧ ∃ out', r = .inl ((i : Int) + 1, out') ∧ out'.Pairwise (fun x y => v.getD x.toNat 0 < v.getD y.toNat 0) ∧ (∀ x, x ∈ out' ↔ 0 ≤ x ∧ x < i + 1) ∧ out'.length = i + 1 := by
  intro k hk h1 h2
  unfold spec_l10Order_j1
  have l1 : (out.take k).length = k := by rw [List.length_take]; omega
  have l2 : (out.drop k).length = out.length - k := List.length_drop
  rw [Int.toNat_natCast, rq_pos ⟨by omega, by omega⟩, rq_pos (by simp only [bound, List.length_nil]; omega), rq_pos ⟨by omega, by omega⟩, rq_pos (by simp only [bound, List.length_cons, List.length_nil]; omega), rq_pos (by rw [List.nil_append, List.length_append, List.length_singleton]; unfold bound; omega), rq_i64 (by omega) (by omega), List.nil_append]
  refine ⟨_, rfl, _, rfl, ?_, fun x => ?_, ?_⟩
  ·rw [List.pairwise_append, List.pairwise_append]
   refine ⟨⟨ha.sublist (List.take_sublist _ _), List.pairwise_singleton _ _, fun a q b hb => ?_⟩, ha.sublist (List.drop_sublist _ _), fun a q b hb => ?_⟩
   ·rw [List.mem_singleton] at hb
    subst hb
    rw [Int.toNat_natCast]
    obtain ⟨j, j1, rfl⟩ := List.mem_take_iff_getElem.1 q
    have := h2 j (by omega)
    rw [List.getD_eq_getElem?_getD (l := out), List.getElem?_eq_getElem (by omega : j < out.length)] at this
    exact this
   ·obtain ⟨j, j1, rfl⟩ := List.mem_drop_iff_getElem.1 hb
    have hj : k + j < out.length := by omega
    rcases List.mem_append.1 q with q | q
    ·obtain ⟨j', j2, rfl⟩ := List.mem_take_iff_getElem.1 q
     rw [List.pairwise_iff_getElem] at ha
     exact ha j' (k + j) (by omega) (by omega) (by omega)
    ·rw [List.mem_singleton] at q
     subst q
     rw [Int.toNat_natCast]
     have := h1 (k + j) (by omega) hj
     rw [List.getD_eq_getElem?_getD (l := out), List.getElem?_eq_getElem hj] at this
     exact this
  ·rw [List.mem_append, List.mem_append, List.mem_singleton]
   have hsplit : x ∈ out ↔ x ∈ out.take k ∨ x ∈ out.drop k := by
    conv => lhs; rw [← List.take_append_drop k out]
    rw [List.mem_append]
   have hm' := hm x
   rw [hsplit] at hm'
   constructor
   ·rintro ((q | q) | q)
    ·have := hm'.1 (.inl q); omega
    ·omega
    ·have := hm'.1 (.inr q); omega
   ·intro q
    by_cases e : x = i
    ·exact .inl (.inr e)
    ·rcases hm'.2 ⟨q.1, by omega⟩ with q | q
     ·exact .inl (.inl q)
     ·exact .inr q
  ·rw [List.length_append, List.length_append, l1, l2, List.length_singleton]; omega
 have key := loop_ex (f := spec_l10Order_l2 v i out) (fun s : Int => ∃ k : Nat, s = k ∧ k ≤ out.length ∧ ∀ j, k ≤ j → j < out.length → v.getD i 0 < v.getD (out.getD j 0).toNat 0) (fun s => s.toNat) (fun r => ∃ out', r = .inl ((i : Int) + 1, out') ∧ out'.Pairwise (fun x y => v.getD x.toNat 0 < v.getD y.toNat 0) ∧ (∀ x, x ∈ out' ↔ 0 ≤ x ∧ x < i + 1) ∧ out'.length = i + 1) (by
  rintro s ⟨k, rfl, hk, h1⟩
  unfold spec_l10Order_l2
  rcases Nat.eq_zero_or_pos k with h0 | h0
  ·subst h0
   right
   obtain ⟨r, e1, e2⟩ := fin 0 (Nat.zero_le _) h1 (fun j hj => by omega)
   rw [cdec_neg (by decide)]
   have e1' : spec_l10Order_j1 (i : Int) out ((0 : Nat) : Int) = some r := e1
   rw [e1']
   exact ⟨r, rfl, e2⟩
  ·have hx := (hm (out.getD (k - 1) 0)).1 (getD_memG (by omega))
   rw [cdec_pos (by omega), rq_i64 (by omega) (by omega), rq_pos ⟨by omega, by omega⟩, show ((k : Int) - 1).toNat = k - 1 by omega, rq_pos ⟨by omega, by omega⟩, rq_pos ⟨by omega, by omega⟩, Int.toNat_natCast]
   by_cases h2 : v.getD i 0 < v.getD (out.getD (k - 1) 0).toNat 0
   ·left
    rw [cdec_pos h2, rq_i64 (by omega) (by omega)]
    refine ⟨_, rfl, ⟨k - 1, by omega, by omega, fun j j1 j2 => ?_⟩, by omega⟩
    rcases Nat.lt_or_ge j k with h3 | h3
    ·rw [show j = k - 1 by omega]; exact h2
    ·exact h1 j h3 j2
   ·right
    have hne : v.getD (out.getD (k - 1) 0).toNat 0 ≠ v.getD i 0 := fun e => by
     have := hd _ _ (by omega) hi e
     omega
    obtain ⟨r, e1, e2⟩ := fin k hk h1 (fun j hj => by
     rcases Nat.lt_or_ge j (k - 1) with h3 | h3
     ·rw [List.pairwise_iff_getElem] at ha
      have := ha j (k - 1) (by omega) (by omega) h3
      rw [List.getD_eq_getElem?_getD (l := out), List.getElem?_eq_getElem (by omega : j < out.length)]
      rw [List.getD_eq_getElem?_getD (l := out), List.getElem?_eq_getElem (by omega : k - 1 < out.length)] at h2 hne
      simp only [Option.getD_some] at h2 hne ⊢
      omega
     ·rw [show j = k - 1 by omega]; omega)
    rw [cdec_neg h2, e1]
    exact ⟨r, rfl, e2⟩) _ ⟨out.length, rfl, Nat.le_refl _, fun j j1 j2 => by omega⟩
 obtain ⟨r, h1, out', h2, h3⟩ := key
 exact ⟨out', by rw [h1, h2], h3⟩

theorem spec_order_eq {v : List Int} (hv : v.length ≤ 1048576) (hd : diffZ v) : spec_l10Order v = some (ordZ v) := by
 unfold spec_l10Order
 obtain ⟨r, h1, h2⟩ := loop_ex (f := spec_l10Order_l1 v) (fun s : Int × List Int => ∃ i : Nat, s.1 = i ∧ i ≤ v.length ∧ s.2.Pairwise (fun x y => v.getD x.toNat 0 < v.getD y.toNat 0) ∧ (∀ x, x ∈ s.2 ↔ 0 ≤ x ∧ x < i) ∧ s.2.length = i) (fun s => v.length - s.1.toNat) (fun r => r = ordZ v) (by
  rintro ⟨s, out⟩ ⟨i, hi, hle, ha, hm, hl⟩
  dsimp only at hi ha hm hl ⊢
  subst hi
  unfold spec_l10Order_l1
  dsimp only
  rcases Nat.lt_or_ge i v.length with q | q
  ·left
   obtain ⟨out', e1, e2, e3, e4⟩ := spec_order_in q hv hd ha hm hl
   rw [cdec_pos (by omega), e1]
   exact ⟨_, rfl, ⟨i + 1, by simp, by omega, e2, e3, e4⟩, by (try dsimp only) <;> omega⟩
  ·right
   have : i = v.length := by omega
   subst this
   rw [cdec_neg (by omega)]
   exact ⟨_, rfl, ordZ_one hd ha hm⟩) ((0 : Int), []) ⟨0, rfl, Nat.zero_le _, .nil, fun x => ⟨(fun h => absurd h List.not_mem_nil), (fun h => absurd h.2 (by have := h.1; omega))⟩, rfl⟩
 rw [h1, h2]

theorem spec_less_eq {a b : List Int} (hl : a.length = b.length) (ha : digB a = true) (hb : digB b = true) (hs : a.length ≤ 1048576) : spec_l10Less a b = some (decide (rowK a < rowK b)) := by
 unfold spec_l10Less
 refine loop_fn (f := spec_l10Less_l1 a b) (fun s : Int => ∃ i : Nat, s = i ∧ i ≤ a.length ∧ ∀ j, j < i → a.getD j 0 = b.getD j 0) (fun s => a.length - s.toNat) (fun _ => decide (rowK a < rowK b)) ?_ _ ⟨0, rfl, Nat.zero_le _, fun j hj => by omega⟩
 rintro s ⟨i, rfl, hi, he⟩
 unfold spec_l10Less_l1
 rcases Nat.lt_or_ge i a.length with h1 | h1
 ·rw [cdec_pos (by omega), cdec_pos (by omega), rq_pos ⟨by omega, by omega⟩, rq_pos ⟨by omega, by omega⟩, Int.toNat_natCast]
  by_cases h2 : a.getD i 0 = b.getD i 0
  ·left
   rw [cbne_neg h2, rq_i64 (by omega) (by omega)]
   refine ⟨_, rfl, ⟨i + 1, by simp, by omega, fun j hj => ?_⟩, by omega, rfl⟩
   rcases Nat.lt_or_ge j i with h4 | h4
   ·exact he j h4
   ·rw [show j = i by omega]; exact h2
  ·right
   rw [cbne_pos h2, rq_pos ⟨by omega, by omega⟩, rq_pos ⟨by omega, by omega⟩]
   rcases Int.lt_or_gt_of_ne h2 with h3 | h3
   ·rw [decide_eq_true h3, decide_eq_true (rowK_first hl ha hb h1 he h3)]
   ·have := rowK_first hl.symm hb ha (by omega) (fun j hj => (he j hj).symm) h3
    rw [decide_eq_false (by omega), decide_eq_false (by omega)]
 ·right
  have : i = a.length := by omega
  subst this
  rw [cdec_neg (by omega)]
  have e : a = b := by
   refine List.ext_getElem hl (fun j j1 j2 => ?_)
   have := he j j1
   rw [List.getD_eq_getElem?_getD, List.getElem?_eq_getElem j1, List.getD_eq_getElem?_getD, List.getElem?_eq_getElem j2] at this
   exact this
  subst e
  rw [decide_eq_false (by omega)]

theorem spec_insert_eq {n : Nat} {rows : List (List Int)} {row : List Int} (hn : n ≤ 1048576) (hR : RowsOk n rows) (hr : row.length = n ∧ digB row = true) (ha : rows.Pairwise (fun x y => rowK x < rowK y)) (hl : rows.length ≤ 1048576) :
  ∃ out, spec_l10Insert rows row = some out ∧ out.Pairwise (fun x y => rowK x < rowK y) ∧ (∀ x, x ∈ out ↔ x ∈ rows ∨ x = row) ∧ out.length ≤ rows.length + 1 := by
 have hlt : ∀ i j, i < j → j < rows.length → rowK (rows.getD i []) < rowK (rows.getD j []) := fun i j h1 h2 => by
  rw [List.pairwise_iff_getElem] at ha
  have := ha i j (by omega) h2 h1
  rw [List.getD_eq_getElem?_getD, List.getElem?_eq_getElem (by omega : i < rows.length), List.getD_eq_getElem?_getD, List.getElem?_eq_getElem h2]
  exact this
 unfold spec_l10Insert
 refine loop_ex (f := spec_l10Insert_l1 rows row) (fun s : Bool × Int × List (List Int) => ∃ i : Nat, s.2.1 = i ∧ i ≤ rows.length ∧ s.2.2.Pairwise (fun x y => rowK x < rowK y) ∧ (∀ x, x ∈ s.2.2 ↔ x ∈ rows.take i ∨ (s.1 = true ∧ x = row)) ∧
   (s.1 = false → ∀ x ∈ rows.take i, rowK x < rowK row) ∧ (s.1 = true → ∀ j, i ≤ j → j < rows.length → rowK row < rowK (rows.getD j [])) ∧ (∀ j, j < i → rows.getD j [] ≠ row) ∧ s.2.2.length ≤ i + 1) (fun s => rows.length - s.2.1.toNat)
  (fun out => out.Pairwise (fun x y => rowK x < rowK y) ∧ (∀ x, x ∈ out ↔ x ∈ rows ∨ x = row) ∧ out.length ≤ rows.length + 1) ?_ _ ⟨0, rfl, Nat.zero_le _, .nil, fun x => by simp, fun _ x hx => by simp at hx, (fun h => by cases h), fun j hj => by omega, Nat.zero_le _⟩
 rintro ⟨done, s, out⟩ ⟨i, hi, hle, A, B, C, D, E, F⟩
 dsimp only at hi A B C D E F ⊢
 subst hi
 unfold spec_l10Insert_l1
 dsimp only
 rcases Nat.lt_or_ge i rows.length with h1 | h1
 ·have hx := hR _ (getD_memG (d := []) h1)
  have hsn := take_snocG (l := rows) (n := i) [] h1
  have hpre : ∀ x ∈ rows.take i, rowK x < rowK (rows.getD i []) := fun x q => by
   obtain ⟨j, j1, rfl⟩ := List.mem_take_iff_getElem.1 q
   have := hlt j i (by omega) h1
   rw [List.getD_eq_getElem?_getD, List.getElem?_eq_getElem (by omega : j < rows.length)] at this
   exact this
  rw [cdec_pos (by omega), rq_pos ⟨by omega, by omega⟩, Int.toNat_natCast, spec_l6Ints_eq _ _ (by omega), bind_s]
  by_cases q : rows.getD i [] = row
  ·right
   rw [beq_iff_eq.2 q, ctt]
   refine ⟨_, rfl, ha, fun x => ⟨fun h => .inl h, fun h => h.elim id (fun e => by rw [e, ← q]; exact getD_memG h1)⟩, by omega⟩
  ·left
   rw [beq_eq_false_iff_ne.2 q, cff]
   have hE : ∀ j, j < i + 1 → rows.getD j [] ≠ row := fun j hj => by
    rcases Nat.lt_or_ge j i with h | h
    ·exact E j h
    ·rw [show j = i by omega]; exact q
   have hne : rowK (rows.getD i []) ≠ rowK row := fun e => q (rowK_inj (hx.1.trans hr.1.symm) hx.2 hr.2 e)
   have step : ∀ (d : Bool) (o : List (List Int)), o.length ≤ i + 2 → spec_l10Insert_j2 rows i (d, o) = some (.inl (d, (i : Int) + 1, o ++ [rows.getD i []])) := fun d o ho => by
    unfold spec_l10Insert_j2
    dsimp only
    rw [rq_pos ⟨by omega, by omega⟩, Int.toNat_natCast, rq_pos (by simp only [bound, List.length_cons, List.length_nil]; omega), rq_i64 (by omega) (by omega)]
   cases done with
   | true =>
    rw [Bool.not_true, cff, step true out (by omega)]
    refine ⟨_, rfl, ⟨i + 1, by simp, by omega, ?_, fun x => ?_, (fun h => by cases h), fun _ j j1 j2 => ?_, hE, ?_⟩, by (try dsimp only) <;> omega⟩
    ·dsimp only
     rw [List.pairwise_append]
     refine ⟨A, List.pairwise_singleton _ _, fun a qa b qb => ?_⟩
     rw [List.mem_singleton] at qb
     subst qb
     rcases (B a).1 qa with h | ⟨_, h⟩
     ·exact hpre a h
     ·rw [h]; exact D rfl i (Nat.le_refl _) h1
    ·dsimp only
     rw [List.mem_append, List.mem_singleton, B x, hsn, List.mem_append, List.mem_singleton]
     constructor
     ·rintro ((h | h) | h)
      ·exact .inl (.inl h)
      ·exact .inr h
      ·exact .inl (.inr h)
     ·rintro ((h | h) | h)
      ·exact .inl (.inl h)
      ·exact .inr h
      ·exact .inl (.inr h)
    ·exact D rfl j (by omega) j2
    ·dsimp only
     rw [List.length_append, List.length_singleton]; omega
   | false =>
    rw [Bool.not_false, ctt, rq_pos ⟨by omega, by omega⟩, spec_less_eq (hr.1.trans hx.1.symm) hr.2 hx.2 (by omega), bind_s]
    by_cases h2 : rowK row < rowK (rows.getD i [])
    ·rw [decide_eq_true h2, ctt, rq_pos (by simp only [bound, List.length_cons, List.length_nil]; omega), step true (out ++ [row]) (by rw [List.length_append, List.length_singleton]; omega)]
     refine ⟨_, rfl, ⟨i + 1, by simp, by omega, ?_, fun x => ?_, (fun h => by cases h), fun _ j j1 j2 => ?_, hE, ?_⟩, by (try dsimp only) <;> omega⟩
     ·dsimp only
      rw [List.pairwise_append, List.pairwise_append]
      refine ⟨⟨A, List.pairwise_singleton _ _, fun a qa b qb => ?_⟩, List.pairwise_singleton _ _, fun a qa b qb => ?_⟩
      ·rw [List.mem_singleton] at qb
       subst qb
       rcases (B a).1 qa with h | ⟨h, _⟩
       ·exact C rfl a h
       ·cases h
      ·rw [List.mem_singleton] at qb
       subst qb
       rcases List.mem_append.1 qa with h | h
       ·rcases (B a).1 h with h | ⟨h, _⟩
        ·exact hpre a h
        ·cases h
       ·rw [List.mem_singleton] at h
        rw [h]; exact h2
     ·dsimp only
      rw [List.mem_append, List.mem_append, List.mem_singleton, List.mem_singleton, B x, hsn, List.mem_append, List.mem_singleton]
      constructor
      ·rintro (((h | ⟨h, _⟩) | h) | h)
       ·exact .inl (.inl h)
       ·cases h
       ·exact .inr ⟨rfl, h⟩
       ·exact .inl (.inr h)
      ·rintro ((h | h) | ⟨_, h⟩)
       ·exact .inl (.inl (.inl h))
       ·exact .inr h
       ·exact .inl (.inr h)
     ·rcases Nat.lt_or_ge i j with h3 | h3
      ·exact Int.lt_trans h2 (hlt i j h3 j2)
      ·omega
     ·dsimp only
      rw [List.length_append, List.length_append, List.length_singleton, List.length_singleton]
      have hol : out.length ≤ i := by
       have nd : out.Nodup := A.imp (fun hlt e => by subst e; exact absurd hlt (Int.lt_irrefl _))
       have hp : out.Perm (rows.take i) := by
        refine (List.perm_ext_iff_of_nodup nd ((ha.sublist (List.take_sublist _ _)).imp (fun hlt e => by subst e; exact absurd hlt (Int.lt_irrefl _)))).2 (fun x => ?_)
        rw [B x]
        exact ⟨fun h => h.elim id (fun h => by cases h.1), .inl⟩
       rw [hp.length_eq, List.length_take]; omega
      omega
    ·rw [decide_eq_false h2, cff, step false out (by omega)]
     refine ⟨_, rfl, ⟨i + 1, by simp, by omega, ?_, fun x => ?_, fun _ x q' => ?_, (fun h => by cases h), hE, ?_⟩, by (try dsimp only) <;> omega⟩
     ·dsimp only
      rw [List.pairwise_append]
      refine ⟨A, List.pairwise_singleton _ _, fun a qa b qb => ?_⟩
      rw [List.mem_singleton] at qb
      subst qb
      rcases (B a).1 qa with h | ⟨h, _⟩
      ·exact hpre a h
      ·cases h
     ·dsimp only
      rw [List.mem_append, List.mem_singleton, B x, hsn, List.mem_append, List.mem_singleton]
      constructor
      ·rintro ((h | ⟨h, _⟩) | h)
       ·exact .inl (.inl h)
       ·cases h
       ·exact .inl (.inr h)
      ·rintro ((h | h) | ⟨h, _⟩)
       ·exact .inl (.inl h)
       ·exact .inr h
       ·cases h
     ·rw [hsn, List.mem_append, List.mem_singleton] at q'
      rcases q' with q' | q'
      ·exact C rfl x q'
      ·rw [q']; omega
     ·dsimp only
      rw [List.length_append, List.length_singleton]; omega
 ·right
  have : i = rows.length := by omega
  subst this
  rw [List.take_length] at B C
  rw [cdec_neg (by omega)]
  unfold spec_l10Insert_j1
  dsimp only
  cases done with
  | true =>
   rw [Bool.not_true, cff]
   exact ⟨_, rfl, A, fun x => by rw [B x]; exact ⟨fun h => h.imp id (fun h => h.2), fun h => h.imp id (fun h => ⟨rfl, h⟩)⟩, by omega⟩
  | false =>
   rw [Bool.not_false, ctt, rq_pos (by simp only [bound, List.length_cons, List.length_nil]; omega)]
   refine ⟨_, rfl, ?_, fun x => ?_, ?_⟩
   ·rw [List.pairwise_append]
    refine ⟨A, List.pairwise_singleton _ _, fun a qa b qb => ?_⟩
    rw [List.mem_singleton] at qb
    subst qb
    rcases (B a).1 qa with h | ⟨h, _⟩
    ·exact C rfl a h
    ·cases h
   ·rw [List.mem_append, List.mem_singleton, B x]
    constructor
    ·rintro ((h | ⟨h, _⟩) | h)
     ·exact .inl h
     ·cases h
     ·exact .inr h
    ·rintro (h | h)
     ·exact .inl (.inl h)
     ·exact .inr h
   ·rw [List.length_append, List.length_singleton]
    have nd : out.Nodup := A.imp (fun hlt e => by subst e; exact absurd hlt (Int.lt_irrefl _))
    have hp : out.Perm rows := by
     refine (List.perm_ext_iff_of_nodup nd (ha.imp (fun hlt e => by subst e; exact absurd hlt (Int.lt_irrefl _)))).2 (fun x => ?_)
     rw [B x]
     exact ⟨fun h => h.elim id (fun h => by cases h.1), .inl⟩
    rw [hp.length_eq]
    omega
end Go.AE.Y
namespace Go.AE.Y
open Go Go.AE

end Go.AE.Y
namespace Go.AE.Y
open Go Go.AE

section
variable {m : ModT} {d : List (List Bool)} {i : Int}

end
end Go.AE.Y
namespace Go.AE.Y
open Go Go.AE

def canW (r : RuleT) : Int × Int × List (List Int) × List Int × List Int := (r.1, r.2.2.2.1, r.2.2.2.2, r.2.1, r.2.2.1)

theorem spec_can_gen {n : Int} {r : RuleT} {o : List Int} (hs : smallR r) (h : RuleOk n r) (ho : ∀ x ∈ o, 0 ≤ x ∧ x < r.2.1.length) (hol : o.length = r.2.1.length) :
  spec_l10Canonical_j1 r o = some (r.1, r.2.2.2.1, ascF (r.2.2.2.2.map (pickF o)), pickF o r.2.1, bif r.1 == 1 then pickF o r.2.2.1 else []) := by
 have hsl := hs.1
 have hrl := hs.2.2.1
 have hR : RowsOk o.length (r.2.2.2.2.map (pickF o)) := fun x hx => by
  obtain ⟨y, hy, rfl⟩ := List.mem_map.1 hx
  exact ⟨pickF_len _ _, pickF_dig (h.rows y hy).2⟩
 have inner : ∀ (i : Nat) (rows : List (List Int)), i < r.2.2.2.2.length → RowsOk o.length rows → rows.Pairwise (fun x y => rowK x < rowK y) → rows.length ≤ 1048576 →
   ∃ out, loop (spec_l10Canonical_l2 r o i rows) ((0 : Int), []) = some (.inl ((i : Int) + 1, out)) ∧ out.Pairwise (fun x y => rowK x < rowK y) ∧ (∀ x, x ∈ out ↔ x ∈ rows ∨ x = pickF o (r.2.2.2.2.getD i [])) ∧ out.length ≤ rows.length + 1 := by
  intro i rows hi hrows ha hl
  have hx := h.rows _ (getD_memG (d := []) hi)
  obtain ⟨out, e1, e2, e3, e4⟩ := spec_insert_eq (n := o.length) (row := pickF o (r.2.2.2.2.getD i [])) (by omega) hrows ⟨pickF_len _ _, pickF_dig hx.2⟩ ha hl
  refine ⟨out, ?_, e2, e3, e4⟩
  refine (loop_push_map (f := spec_l10Canonical_l2 r o i rows) o 0 (fun v => (r.2.2.2.2.getD i []).getD v.toNat 0) [] (fun _ => .inl ((i : Int) + 1, out)) (fun k q hk hq => ?_) ?_)
  ·have hv := ho _ (getD_memG (d := 0) hk)
   unfold spec_l10Canonical_l2
   dsimp only
   rw [cdec_pos (by omega), rq_pos ⟨by omega, by omega⟩, Int.toNat_natCast, rq_pos ⟨by omega, by omega⟩, Int.toNat_natCast, rq_pos ⟨by omega, by omega⟩, rq_pos (by simp only [bound, List.length_cons, List.length_nil]; simp at hq; omega), rq_i64 (by omega) (by omega)]
  ·unfold spec_l10Canonical_l2
   dsimp only
   rw [cdec_neg (by omega), List.nil_append]
   unfold spec_l10Canonical_j3
   have e1' : spec_l10Insert rows (o.map (fun v => (r.2.2.2.2.getD i []).getD v.toNat 0)) = some out := e1
   rw [e1', bind_s, rq_i64 (by omega) (by omega)]
   rfl
 have e2 : ∀ v c : List Int, spec_l10Canonical_j2 r o (v, c) = some (r.1, r.2.2.2.1, ascF (r.2.2.2.2.map (pickF o)), v, c) := fun v c => by
  unfold spec_l10Canonical_j2
  dsimp only
  obtain ⟨q, h1, h2⟩ := loop_ex (f := spec_l10Canonical_l1 r o v c) (fun s : Int × List (List Int) => ∃ i : Nat, s.1 = i ∧ i ≤ r.2.2.2.2.length ∧ s.2.Pairwise (fun x y => rowK x < rowK y) ∧ (∀ x, x ∈ s.2 ↔ x ∈ (r.2.2.2.2.take i).map (pickF o)) ∧ s.2.length ≤ i) (fun s => r.2.2.2.2.length - s.1.toNat)
   (fun q => q = (r.1, r.2.2.2.1, ascF (r.2.2.2.2.map (pickF o)), v, c)) (by
   rintro ⟨s, rows⟩ ⟨i, hi, hle, ha, hm, hl⟩
   dsimp only at hi ha hm hl ⊢
   subst hi
   unfold spec_l10Canonical_l1
   dsimp only
   rcases Nat.lt_or_ge i r.2.2.2.2.length with h5 | h5
   ·left
    have hsub : RowsOk o.length rows := fun x hx => by
     obtain ⟨y, hy, rfl⟩ := List.mem_map.1 ((hm x).1 hx)
     exact hR _ (List.mem_map.2 ⟨y, List.mem_of_mem_take hy, rfl⟩)
    obtain ⟨out, f1, f2, f3, f4⟩ := inner i rows h5 hsub ha (by omega)
    rw [cdec_pos (by omega), f1]
    refine ⟨_, rfl, ⟨i + 1, by simp, by omega, f2, fun x => ?_, by (try dsimp only) <;> omega⟩, by (try dsimp only) <;> omega⟩
    dsimp only
    rw [f3, hm, take_snocG (l := r.2.2.2.2) (n := i) [] h5, List.map_append, List.mem_append]
    simp only [List.map_cons, List.map_nil, List.mem_singleton]
   ·right
    have : i = r.2.2.2.2.length := by omega
    subst this
    rw [List.take_length] at hm
    rw [cdec_neg (by omega)]
    exact ⟨_, rfl, by rw [ascF_one hR ha hm]⟩) ((0 : Int), []) ⟨0, rfl, Nat.zero_le _, .nil, fun x => by simp, Nat.zero_le _⟩
  rw [h1, h2]
 unfold spec_l10Canonical_j1
 by_cases h1 : r.1 = 1
 ·have hlin := lin_at h.kind h1
  rw [beq_iff_eq.2 h1, ctt]
  refine loop_fn (f := spec_l10Canonical_l3 r o) (fun s : Int × List Int × List Int => ∃ i : Nat, s.1 = i ∧ i ≤ o.length ∧ s.2.1 = (pickF o r.2.1).take i ∧ s.2.2 = (pickF o r.2.2.1).take i) (fun s => o.length - s.1.toNat) (fun _ => (r.1, r.2.2.2.1, ascF (r.2.2.2.2.map (pickF o)), pickF o r.2.1, pickF o r.2.2.1)) ?_ _ ⟨0, rfl, Nat.zero_le _, rfl, rfl⟩
  rintro ⟨s, v, c⟩ ⟨i, hi, hle, hv, hc⟩
  dsimp only at hi hv hc ⊢
  subst hi hv hc
  unfold spec_l10Canonical_l3
  dsimp only
  rcases Nat.lt_or_ge i o.length with h5 | h5
  ·left
   have q := ho _ (getD_memG (d := 0) h5)
   rw [cdec_pos (by omega), rq_pos ⟨by omega, by omega⟩, Int.toNat_natCast, rq_pos ⟨by omega, by omega⟩, rq_pos (by rw [List.length_take, pickF_len, List.length_singleton]; unfold bound; omega)]
   unfold spec_l10Canonical_j4
   rw [cbeq_pos h1, rq_pos ⟨by omega, by omega⟩, Int.toNat_natCast, rq_pos ⟨by omega, by omega⟩, rq_pos (by rw [List.length_take, pickF_len, List.length_singleton]; unfold bound; omega), rq_i64 (by omega) (by omega)]
   refine ⟨_, rfl, ⟨i + 1, by simp, by omega, ?_, ?_⟩, by (try dsimp only) <;> omega, rfl⟩
   ·dsimp only
    rw [take_snocG (l := pickF o r.2.1) (n := i) 0 (by rw [pickF_len]; exact h5), pickF_get h5]
   ·dsimp only
    rw [take_snocG (l := pickF o r.2.2.1) (n := i) 0 (by rw [pickF_len]; exact h5), pickF_get h5]
  ·right
   have : i = o.length := by omega
   subst this
   rw [cdec_neg (by omega), List.take_of_length_le (by rw [pickF_len]; exact Nat.le_refl _), List.take_of_length_le (by rw [pickF_len]; exact Nat.le_refl _), e2]
   rfl
 ·rw [beq_eq_false_iff_ne.2 h1, cff]
  refine loop_fn (f := spec_l10Canonical_l3 r o) (fun s : Int × List Int × List Int => ∃ i : Nat, s.1 = i ∧ i ≤ o.length ∧ s.2.1 = (pickF o r.2.1).take i ∧ s.2.2 = []) (fun s => o.length - s.1.toNat) (fun _ => (r.1, r.2.2.2.1, ascF (r.2.2.2.2.map (pickF o)), pickF o r.2.1, [])) ?_ _ ⟨0, rfl, Nat.zero_le _, rfl, rfl⟩
  rintro ⟨s, v, c⟩ ⟨i, hi, hle, hv, hc⟩
  dsimp only at hi hv hc ⊢
  subst hi hv hc
  unfold spec_l10Canonical_l3
  dsimp only
  rcases Nat.lt_or_ge i o.length with h5 | h5
  ·left
   have q := ho _ (getD_memG (d := 0) h5)
   rw [cdec_pos (by omega), rq_pos ⟨by omega, by omega⟩, Int.toNat_natCast, rq_pos ⟨by omega, by omega⟩, rq_pos (by rw [List.length_take, pickF_len, List.length_singleton]; unfold bound; omega)]
   unfold spec_l10Canonical_j4
   rw [cbeq_neg h1, rq_i64 (by omega) (by omega)]
   refine ⟨_, rfl, ⟨i + 1, by simp, by omega, ?_, rfl⟩, by (try dsimp only) <;> omega, rfl⟩
   dsimp only
   rw [Int.toNat_natCast, take_snocG (l := pickF o r.2.1) (n := i) 0 (by rw [pickF_len]; exact h5), pickF_get h5]
  ·right
   have : i = o.length := by omega
   subst this
   rw [cdec_neg (by omega), List.take_of_length_le (by rw [pickF_len]; exact Nat.le_refl _), e2]
   rfl

theorem spec_canonical_eq {n : Int} {r : RuleT} (hs : smallR r) (h : RuleOk n r) : spec_l10Canonical r = some (canW (canB r)) := by
 unfold spec_l10Canonical canB
 rw [spec_order_eq hs.1 (freshB_diff h.fresh), bind_s]
 by_cases h4 : r.1 = 4
 ·have h2 : r.2.1.length = 2 := by
   rcases kind_cases h.kind with ⟨q, _⟩ | ⟨q, _⟩ | ⟨_, q⟩ | q
   ·omega
   ·omega
   ·exact q
   ·omega
  have hrow : r.2.2.2.2 = [] := by
   have := h.spare
   unfold spareB at this
   rw [Bool.and_eq_true, beq_eq_false_iff_ne.2 (by omega : r.1 ≠ 3), Bool.false_or, decide_eq_true_eq] at this
   exact List.eq_nil_of_length_eq_zero this.2
  have hcf : r.2.2.1 = [] := by
   have := h.spare
   unfold spareB at this
   rw [Bool.and_eq_true, beq_eq_false_iff_ne.2 (by omega : r.1 ≠ 1), Bool.false_or, Bool.and_eq_true, decide_eq_true_eq] at this
   exact List.eq_nil_of_length_eq_zero this.1.1
  have e01 : [(0 : Int), 1] = nums 2 := rfl
  rw [cbeq_pos h4, beq_iff_eq.2 h4, ctt, spec_can_gen hs h (o := [(0 : Int), 1]) (fun x hx => by rw [e01] at hx; have := mem_nums.1 hx; omega) (by rw [h2]; rfl), hrow, e01, pickF_nums h2, beq_eq_false_iff_ne.2 (by omega), cff]
  unfold canW
  rw [hrow, hcf]
  rfl
 ·rw [cbeq_neg h4, beq_eq_false_iff_ne.2 h4, cff, spec_can_gen hs h (fun x hx => mem_ordZ.1 hx) (ordZ_len _)]
  rfl

theorem canB_small {r : RuleT} (h : smallR r) {n : Int} (hr : RuleOk n r) : smallR (canB r) := by
 unfold canB
 by_cases h4 : r.1 = 4
 ·rw [beq_iff_eq.2 h4, ctt]; exact h
 rw [beq_eq_false_iff_ne.2 h4, cff]
 have hl := ascF_len (r.2.2.2.2.map (pickF (ordZ r.2.1)))
 rw [List.length_map] at hl
 refine ⟨by show (pickF _ _).length ≤ _; rw [pick_len]; exact h.1, ?_, Nat.le_trans hl h.2.2.1, fun x hx => ?_⟩
 ·show (bif r.1 == 1 then pickF (ordZ r.2.1) r.2.2.1 else []).length ≤ _
  cases r.1 == 1 with
  | true => rw [ctt, pick_len]; exact h.1
  | false => exact Nat.zero_le _
 ·rw [(canR_rows hr x (ascF_mem.1 hx)).1]; exact h.1

end Go.AE.Y
namespace Go.AE.Y
open Go Go.AE

theorem dec_len (u : Nat) : (Go.Lib.decDigits u).length ≤ u + 1 := by
 induction u using Nat.strongRecOn with
 | ind u ih =>
  by_cases h : u < 10
  ·rw [Go.Lib.decDigits_one h]
   simp
  ·rw [dec_at h, List.length_append, List.length_singleton]
   have := ih (u / 10) (by omega)
   omega
theorem itoa_len (n : Int) : (Go.Lib.itoa n).length ≤ n.natAbs + 2 := by
 unfold Go.Lib.itoa
 split
 ·have := dec_len n.natAbs
  rw [List.length_cons]
  omega
 ·have := dec_len n.toNat
  omega

theorem digF_snoc (l : List Int) (x : Int) : digF (l ++ [x]) = digF l ++ Go.Lib.itoa x := by
 unfold digF
 rw [List.flatMap_append]
 simp
theorem digF_len {l : List Int} (h : ∀ x ∈ l, 0 ≤ x ∧ x < 10) : (digF l).length = l.length := by
 induction l with
 | nil => rfl
 | cons x l ih =>
  unfold digF at ih ⊢
  rw [List.flatMap_cons, List.length_append, itoa_one (h x List.mem_cons_self), ih (fun y hy => h y (List.mem_cons_of_mem _ hy))]
  simp only [List.length_cons, List.length_nil]
  omega

theorem digits_eq {l : List Int} (h : ∀ x ∈ l, 0 ≤ x ∧ x < 10) (hl : l.length ≤ 1048576) : impl_digits l = some (digF l) := by
 unfold impl_digits
 refine loop_fn (f := impl_digits_l1 l) (fun s : List UInt8 × Int => ∃ i : Nat, s.2 = i ∧ i ≤ l.length ∧ s.1 = digF (l.take i)) (fun s => l.length - s.2.toNat) (fun _ => digF l) ?_ _ ⟨0, rfl, Nat.zero_le _, rfl⟩
 rintro ⟨out, s⟩ ⟨i, hi, hle, ho⟩
 dsimp only at hi ho ⊢
 subst hi ho
 unfold impl_digits_l1
 dsimp only
 rcases Nat.lt_or_ge i l.length with h1 | h1
 ·left
  have hx := h _ (getD_memG (d := 0) h1)
  have hn : (digF (l.take i)).length ≤ i := by
   rw [digF_len (fun x q => h x (List.mem_of_mem_take q)), List.length_take]; omega
  rw [cdec_pos (by omega), rq_pos ⟨by omega, by omega⟩, Int.toNat_natCast]
  unfold itoaO
  rw [bind_s, rq_pos (by rw [itoa_one hx]; simp only [List.length_singleton, bound]; omega), rq_i64 (by omega) (by omega)]
  exact ⟨_, rfl, ⟨i + 1, by simp, by omega, by (try dsimp only); rw [take_snocG (l := l) (n := i) 0 h1, digF_snoc]⟩, by (try dsimp only) <;> omega, rfl⟩
 ·right
  have : i = l.length := by omega
  subst this
  rw [cdec_neg (by omega), List.take_length]

theorem joinW_append (a b : List (List UInt8)) : joinW (a ++ b) = joinW a ++ joinW b := by
 unfold joinW
 rw [List.flatMap_append]
theorem joinW_one (w : List UInt8) : joinW [w] = 32 :: w := by
 unfold joinW
 simp

theorem termW_snoc : ∀ {v c : List Int} {x y : Int}, v.length = c.length → termW (v ++ [x]) (c ++ [y]) = termW v c ++ [Go.Lib.itoa y, Go.Lib.itoa x]
 | [], [], _, _, _ => rfl
 | a :: v, b :: c, x, y, h => by
  show Go.Lib.itoa b :: Go.Lib.itoa a :: termW (v ++ [x]) (c ++ [y]) = _
  rw [termW_snoc (by simpa using h)]
  rfl
 | [], _ :: _, _, _, h => by cases h
 | _ :: _, [], _, _, h => by cases h

theorem word_at {k : Int} (h : k = 1 ∨ k = 2 ∨ k = 3 ∨ k = 4) : ([([] : List UInt8), [108, 105, 110, 101, 97, 114], [100, 105, 102, 102, 101, 114, 101, 110, 116], [116, 97, 98, 108, 101], [108, 101, 115, 115]] : List (List UInt8)).getD k.toNat [] = wordOf k := by
 rcases h with h | h | h | h <;> subst h <;> rfl
theorem word_len (k : Int) : (wordOf k).length ≤ 9 := by
 unfold wordOf
 cases k == 1 <;> cases k == 2 <;> cases k == 3 <;> cases k == 4 <;> decide

theorem kind_four {r : RuleT} (h : kindB r = true) : r.1 = 1 ∨ r.1 = 2 ∨ r.1 = 3 ∨ r.1 = 4 := by
 rcases kind_cases h with ⟨q, _⟩ | ⟨q, _⟩ | ⟨q, _⟩ | q
 ·exact .inl q
 ·exact .inr (.inr (.inl q))
 ·exact .inr (.inr (.inr q))
 ·exact .inr (.inl q)

theorem lin_bound {r : RuleT} (h : kindB r = true) (h1 : r.1 = 1) : -1000 ≤ r.2.2.2.1 ∧ r.2.2.2.1 ≤ 1000 := by
 rcases kind_cases h with ⟨_, q⟩ | ⟨q, _⟩ | ⟨q, _⟩ | q
 ·unfold linB at q
  simp only [Bool.and_eq_true, decide_eq_true_eq] at q
  exact q.2.1
 ·omega
 ·omega
 ·omega

theorem rows_few {n : Int} {r : RuleT} (h : RuleOk n r) : r.2.2.2.2.length ≤ 8 := by
 by_cases h3 : r.1 = 3
 ·rcases kind_cases h.kind with ⟨q, _⟩ | ⟨_, q⟩ | ⟨q, _⟩ | q
  ·omega
  ·exact (tabB_rows q).1
  ·omega
  ·omega
 ·have hs := h.spare
  unfold spareB at hs
  rw [Bool.and_eq_true, beq_eq_false_iff_ne.2 h3, Bool.false_or, decide_eq_true_eq] at hs
  omega

theorem text_eq {n : Int} {r : RuleT} (hn : n ≤ 5) (hs : smallR r) (h : RuleOk n r) : impl_Rule_text r = some (textF r) := by
 have hk := kind_four h.kind
 have hsl := hs.1
 have hw := word_len r.1
 have hvd := fresh_dig hn h.fresh
 unfold impl_Rule_text impl_ruleWords
 rw [bind_s, rq_pos ⟨by omega, by simp only [List.length_cons, List.length_nil]; omega⟩]
 have hwd := word_at hk
 have hwd' : ([([] : List UInt8), ([108, 105, 110, 101, 97, 114] : List UInt8), ([100, 105, 102, 102, 101, 114, 101, 110, 116] : List UInt8), ([116, 97, 98, 108, 101] : List UInt8), ([108, 101, 115, 115] : List UInt8)] : List (List UInt8)).getD r.1.toNat [] = wordOf r.1 := hwd
 rw [hwd']
 unfold impl_Rule_text_j1 textF wordsOf
 by_cases h1 : r.1 = 1
 ·rw [cbeq_pos h1, beq_iff_eq.2 h1, ctt]
  obtain ⟨l1, l2⟩ := lin_at h.kind h1
  have hb := lin_bound h.kind h1
  refine loop_fn (f := impl_Rule_text_l1 r) (fun s : List UInt8 × Int => ∃ i : Nat, s.2 = i ∧ i ≤ r.2.1.length ∧ s.1 = wordOf r.1 ++ joinW (termW (r.2.1.take i) (r.2.2.1.take i)) ∧ s.1.length ≤ 9 + 40 * i) (fun s => r.2.1.length - s.2.toNat) (fun _ => wordOf r.1 ++ joinW (termW r.2.1 r.2.2.1 ++ [[62, 61], Go.Lib.itoa r.2.2.2.1])) ?_ _ ⟨0, rfl, Nat.zero_le _, by show _ = wordOf r.1 ++ joinW (termW [] []); rw [show joinW (termW [] []) = [] from rfl, List.append_nil], by omega⟩
  rintro ⟨out, s⟩ ⟨i, hi, hle, ho, hol⟩
  dsimp only at hi ho hol ⊢
  subst hi
  unfold impl_Rule_text_l1
  dsimp only
  rcases Nat.lt_or_ge i r.2.1.length with h5 | h5
  ·left
   have hx := hvd _ (getD_memG (d := 0) h5)
   have hy := l2 i
   have i1 := itoa_len (r.2.2.1.getD i 0)
   have i2 := itoa_one hx
   unfold itoaO
   rw [cdec_pos (by omega), rq_pos ⟨by omega, by omega⟩, rq_pos ⟨by omega, by omega⟩, bind_s, Int.toNat_natCast, rq_pos (by simp only [List.length_cons, List.length_nil, bound]; omega), rq_pos (by simp only [List.length_append, List.length_cons, List.length_nil, bound]; omega), bind_s]
   rw [i2, rq_pos (by simp only [List.length_append, List.length_cons, List.length_nil, bound]; omega), rq_pos (by simp only [List.length_append, List.length_cons, List.length_nil, bound]; omega), rq_i64 (by omega) (by omega)]
   refine ⟨_, rfl, ⟨i + 1, by simp, by omega, ?_, by (try dsimp only); simp only [List.length_append, List.length_cons, List.length_nil]; omega⟩, by (try dsimp only) <;> omega, rfl⟩
   dsimp only
   rw [ho, take_snocG (l := r.2.1) (n := i) 0 h5, take_snocG (l := r.2.2.1) (n := i) 0 (by omega), termW_snoc (by rw [List.length_take, List.length_take, l1]), joinW_append, i2]
   show _ ++ _ = _ ++ (_ ++ joinW [Go.Lib.itoa (r.2.2.1.getD i 0), [UInt8.ofNat (48 + (r.2.1.getD i 0).toNat)]])
   unfold joinW
   simp
  ·right
   have : i = r.2.1.length := by omega
   subst this
   have i1 := itoa_len r.2.2.2.1
   unfold itoaO
   rw [cdec_neg (by omega), rq_pos (by simp only [List.length_cons, List.length_nil, bound]; omega), bind_s, rq_pos (by simp only [List.length_append, List.length_cons, List.length_nil, bound]; omega)]
   rw [ho, List.take_length, List.take_of_length_le (by omega), joinW_append]
   have e : joinW [[62, 61], Go.Lib.itoa r.2.2.2.1] = [32, 62, 61, 32] ++ Go.Lib.itoa r.2.2.2.1 := by unfold joinW; simp
   rw [e]
   simp only [List.append_assoc]
 ·rw [cbeq_neg h1, beq_eq_false_iff_ne.2 h1, cff, digits_eq hvd hsl, bind_s]
  have hdl := digF_len hvd
  have hR := h.rows
  have hrl := hs.2.2.1
  rw [rq_pos (by simp only [List.length_cons, List.length_nil, bound]; omega), rq_pos (by simp only [List.length_append, List.length_cons, List.length_nil, bound]; omega)]
  refine loop_fn (f := impl_Rule_text_l2 r) (fun s : List UInt8 × Int => ∃ i : Nat, s.2 = i ∧ i ≤ r.2.2.2.2.length ∧ s.1 = wordOf r.1 ++ joinW (digF r.2.1 :: (r.2.2.2.2.take i).map digF) ∧ s.1.length ≤ 10 + r.2.1.length + i * (1 + r.2.1.length)) (fun s => r.2.2.2.2.length - s.2.toNat) (fun _ => wordOf r.1 ++ joinW (digF r.2.1 :: r.2.2.2.2.map digF)) ?_ _ ⟨0, rfl, Nat.zero_le _, by show _ = wordOf r.1 ++ joinW [digF r.2.1]; rw [joinW_one]; rfl, by (try dsimp only); simp only [List.length_append, List.length_cons, List.length_nil]; omega⟩
  rintro ⟨out, s⟩ ⟨i, hi, hle, ho, hol⟩
  dsimp only at hi ho hol ⊢
  subst hi
  unfold impl_Rule_text_l2
  dsimp only
  have hr8 := rows_few h
  rcases Nat.lt_or_ge i r.2.2.2.2.length with h5 | h5
  ·left
   have hx := hR _ (getD_memG (d := []) h5)
   have hxd := dig_dig hx.2
   have hxl := digF_len hxd
   have hm : i * (1 + r.2.1.length) ≤ 8 * 1048577 := Nat.mul_le_mul (by omega) (by omega)
   have hm2 : (i + 1) * (1 + r.2.1.length) = i * (1 + r.2.1.length) + (1 + r.2.1.length) := Nat.succ_mul _ _
   rw [cdec_pos (by omega), rq_pos ⟨by omega, by omega⟩, Int.toNat_natCast, digits_eq hxd (by omega), bind_s, rq_pos (by simp only [List.length_cons, List.length_nil, bound]; omega), rq_pos (by simp only [List.length_append, List.length_cons, List.length_nil, bound]; omega), rq_i64 (by omega) (by omega)]
   refine ⟨_, rfl, ⟨i + 1, by simp, by omega, ?_, by (try dsimp only); simp only [List.length_append, List.length_cons, List.length_nil]; omega⟩, by (try dsimp only) <;> omega, rfl⟩
   dsimp only
   rw [ho, take_snocG (l := r.2.2.2.2) (n := i) [] h5, List.map_append, ← List.cons_append, joinW_append]
   show _ ++ _ = _ ++ (_ ++ joinW [digF (r.2.2.2.2.getD i [])])
   rw [joinW_one, List.append_assoc]
   rfl
  ·right
   have : i = r.2.2.2.2.length := by omega
   subst this
   rw [cdec_neg (by omega), ho, List.take_length]
end Go.AE.Y
namespace Go.AE.Y
open Go Go.AE

theorem CompactText_eq (s : List (List UInt8)) (hn : s.length ≤ 4000000000) : slices_Compact_string s = some (onceF [] s s.length) := by
 have h1 : ∀ n, 1 ≤ n → n ≤ s.length → (∀ k, 1 ≤ k → k < n → s.getD k [] ≠ s.getD (k - 1) []) → onceF [] s n = s.take n := by
  intro n
  induction n with
  | zero => intro h; omega
  | succ n ih =>
   intro _ h2 h3
   rw [take_snocG (l := s) (n := n) [] (by omega)]
   unfold onceF
   rcases Nat.lt_or_ge 0 n with h4 | h4
   ·rw [if_neg (fun h => h3 n h4 (by omega) h.2), ih h4 (by omega) (fun k k1 k2 => h3 k k1 (by omega))]
   ·have : n = 0 := by omega
    subst this
    rw [if_neg (fun h => absurd h.1 (by omega))]
    rfl
 unfold slices_Compact_string
 rcases Nat.lt_or_ge s.length 2 with h2 | h2
 ·rw [cdec_pos (by omega)]
  rcases Nat.lt_or_ge 0 s.length with h3 | h3
  ·rw [h1 s.length h3 (Nat.le_refl _) (fun k k1 k2 => by omega), List.take_length]
  ·have : s = [] := List.eq_nil_of_length_eq_zero (by omega)
   subst this
   rfl
 rw [cdec_neg (by omega)]
 refine loop_fn (f := slices_Compact_string_l1 s) (fun t : Int => ∃ n : Nat, t = n ∧ 1 ≤ n ∧ n ≤ s.length ∧ ∀ k, 1 ≤ k → k < n → s.getD k [] ≠ s.getD (k - 1) []) (fun t => s.length - t.toNat) (fun _ => onceF [] s s.length) ?_ _ ⟨1, rfl, by omega, by omega, fun k k1 k2 => by omega⟩
 rintro t ⟨n, rfl, n1, n2, n3⟩
 unfold slices_Compact_string_l1
 rcases Nat.lt_or_ge n s.length with h3 | h3
 ·rw [cdec_pos (by omega), rq_pos ⟨by omega, by omega⟩, rq_i64 (by omega) (by omega), rq_pos ⟨by omega, by omega⟩, Int.toNat_natCast, show ((n : Int) - 1).toNat = n - 1 by omega]
  by_cases q : s.getD n [] = s.getD (n - 1) []
  ·right
   rw [beq_iff_eq.2 q, ctt, rq_pos ⟨by omega, by omega⟩]
   have e0 : onceF [] s (n + 1) = s.take n := by
    unfold onceF
    rw [if_pos ⟨n1, q⟩, h1 n n1 n2 n3]
   refine loop_fn (f := slices_Compact_string_l2 n) (fun t : Int × Int × List (List UInt8) => ∃ b : Nat, t.2.1 = b ∧ 1 ≤ b ∧ n + b ≤ s.length ∧ t.1 = (onceF [] s (n + b)).length ∧ (onceF [] s (n + b)).length + 1 ≤ n + b ∧ t.2.2.length = s.length ∧ t.2.2.take (onceF [] s (n + b)).length = onceF [] s (n + b) ∧ ∀ j, n + b ≤ j + 1 → t.2.2.getD j [] = s.getD j []) (fun t => s.length - t.2.1.toNat) (fun _ => .inr (onceF [] s s.length)) ?_ _ ⟨1, rfl, Nat.le_refl _, by omega, ?_, ?_, rfl, ?_, fun _ _ => rfl⟩
   ·rintro ⟨k1, k2, a⟩ ⟨b, hb, b1, b2, b3, b4, b5, b6, b7⟩
    dsimp only at hb b3 b5 b6 b7 ⊢
    subst hb
    subst b3
    unfold slices_Compact_string_l2
    dsimp only
    rcases Nat.lt_or_ge (n + b) s.length with h4 | h4
    ·left
     have e1 : ((n : Int) + (b : Int)).toNat = n + b := by omega
     have e2 : ((n : Int) + ((b : Int) - 1)).toNat = n + b - 1 := by omega
     rw [cdec_pos (by omega), rq_pos ⟨by omega, by omega⟩, rq_i64 (by omega) (by omega), rq_pos ⟨by omega, by omega⟩, e1, e2, b7 (n + b) (by omega), b7 (n + b - 1) (by omega)]
     by_cases q2 : s.getD (n + b) [] = s.getD (n + b - 1) []
     ·have e3 : onceF [] s (n + (b + 1)) = onceF [] s (n + b) := by
       show onceF [] s (n + b + 1) = _
       conv => lhs; unfold onceF
       rw [if_pos ⟨by omega, q2⟩]
      rw [show (s.getD (n + b) [] != s.getD (n + b - 1) []) = false by rw [q2]; exact bne_self_eq_false _, cff, rq_i64 (by omega) (by omega)]
      refine ⟨_, rfl, ⟨b + 1, by simp, by omega, by omega, ?_, ?_, b5, ?_, fun j hj => b7 j (by omega)⟩, by (try dsimp only) <;> omega, rfl⟩
      ·rw [e3]
      ·rw [e3]; omega
      ·rw [e3]; exact b6
     ·have e3 : onceF [] s (n + (b + 1)) = onceF [] s (n + b) ++ [s.getD (n + b) []] := by
       show onceF [] s (n + b + 1) = _
       conv => lhs; unfold onceF
       rw [if_neg (fun h => q2 h.2)]
      have e4 : (onceF [] s (n + (b + 1))).length = (onceF [] s (n + b)).length + 1 := by rw [e3, List.length_append, List.length_singleton]
      rw [show (s.getD (n + b) [] != s.getD (n + b - 1) []) = true by rw [bne_iff_ne]; exact q2, ctt, rq_pos ⟨by omega, by omega⟩, rq_pos ⟨by omega, by omega⟩, rq_i64 (by omega) (by omega), rq_i64 (by omega) (by omega), Int.toNat_natCast]
      refine ⟨_, rfl, ⟨b + 1, by simp, by omega, by omega, ?_, ?_, ?_, ?_, fun j hj => ?_⟩, by (try dsimp only) <;> omega, rfl⟩
      ·rw [e4]; simp
      ·rw [e4]; omega
      ·dsimp only; rw [List.length_set]; exact b5
      ·dsimp only
       rw [e4, List.take_add_one, List.take_set_of_le (Nat.le_refl _), b6, List.getElem?_set_self (by omega), e3]
       rfl
      ·dsimp only
       rw [List.getD_eq_getElem?_getD, List.getElem?_set_ne (by omega), ← List.getD_eq_getElem?_getD]
       exact b7 j (by omega)
    ·right
     have e : n + b = s.length := by omega
     unfold slices_Compact_string_j1
     dsimp only
     rw [e] at b4 b6 ⊢
     have hl : (a.take (onceF [] s s.length).length ++ List.replicate (a.length - (onceF [] s s.length).length) ([] : List UInt8)).length = s.length := by rw [List.length_append, List.length_take, List.length_replicate]; omega
     rw [cdec_neg (by omega), rq_pos ⟨by omega, by omega⟩, Int.toNat_natCast, hl, rq_pos ⟨by omega, by omega⟩, b6, List.take_left' rfl]
     rfl
   ·dsimp only
    rw [e0, List.length_take]; omega
   ·rw [e0, List.length_take]; omega
   ·dsimp only
    rw [e0, List.length_take, Nat.min_eq_left n2]
  ·left
   rw [beq_eq_false_iff_ne.2 q, cff, rq_i64 (by omega) (by omega)]
   refine ⟨_, rfl, ⟨n + 1, by simp, by omega, by omega, fun k k1 k2 => ?_⟩, by omega, rfl⟩
   rcases Nat.lt_or_ge k n with h | h
   ·exact n3 k k1 h
   ·rw [show k = n by omega]; exact q
 ·right
  have : n = s.length := by omega
  rw [cdec_neg (by omega), h1 s.length (by omega) (Nat.le_refl _) (by rw [← this]; exact n3), List.take_length]

theorem EqualText_eq (a b : List (List UInt8)) (ha : a.length ≤ 1048576) : slices_Equal_string a b = some (a == b) := by
 unfold slices_Equal_string
 by_cases hl : a.length = b.length
 ·rw [cbne_neg (by omega)]
  refine loop_fn (f := slices_Equal_string_l1 a b) (fun s : Int => ∃ i : Nat, s = i ∧ i ≤ a.length ∧ ∀ j, j < i → a.getD j [] = b.getD j []) (fun s => a.length - s.toNat) (fun _ => a == b) ?_ _ ⟨0, rfl, Nat.zero_le _, fun j hj => by omega⟩
  rintro s ⟨i, rfl, hi, he⟩
  unfold slices_Equal_string_l1
  rcases Nat.lt_or_ge i a.length with h1 | h1
  ·rw [cdec_pos (by omega), rq_pos ⟨by omega, by omega⟩, rq_pos ⟨by omega, by omega⟩, Int.toNat_natCast]
   by_cases q : a.getD i [] = b.getD i []
   ·left
    rw [show (a.getD i [] != b.getD i []) = false by rw [q]; exact bne_self_eq_false _, cff, rq_i64 (by omega) (by omega)]
    refine ⟨_, rfl, ⟨i + 1, by simp, by omega, fun j hj => ?_⟩, by omega, rfl⟩
    rcases Nat.lt_or_ge j i with h | h
    ·exact he j h
    ·rw [show j = i by omega]; exact q
   ·right
    rw [show (a.getD i [] != b.getD i []) = true by rw [bne_iff_ne]; exact q, ctt]
    have : (a == b) = false := by
     rw [beq_eq_false_iff_ne]
     intro e
     exact q (by rw [e])
    rw [this]
  ·right
   have : i = a.length := by omega
   subst this
   rw [cdec_neg (by omega)]
   have e : a = b := by
    refine List.ext_getElem hl (fun j j1 j2 => ?_)
    have := he j j1
    rw [List.getD_eq_getElem?_getD, List.getElem?_eq_getElem j1, List.getD_eq_getElem?_getD, List.getElem?_eq_getElem j2] at this
    exact this
   rw [beq_iff_eq.2 e]
 ·rw [cbne_pos (by omega)]
  have : (a == b) = false := by
   rw [beq_eq_false_iff_ne]
   intro e
   exact hl (by rw [e])
  rw [this]

theorem standard_eq {m : ModT} (h : smallM m) (hm : modB m = true) : impl_Model_standard m = some (stdS (m.2.map (fun r => textF (canB r)))) := by
 have hl := modB_len hm
 have hj : impl_Model_standard_j1 (m.2.map (fun r => textF (canB r))) = some (stdS (m.2.map (fun r => textF (canB r)))) := by
  have hms : ((m.2.map (fun r => textF (canB r))).mergeSort fun x y => decide (x ≤ y)).length = (m.2.map (fun r => textF (canB r))).length := List.length_mergeSort _
  have hml : (m.2.map (fun r => textF (canB r))).length ≤ 8 := by rw [List.length_map]; omega
  unfold impl_Model_standard_j1 sortS
  rw [if_pos (by omega), bind_s, CompactText_eq _ (by omega), bind_s, hms]
  rfl
 unfold impl_Model_standard
 refine (loop_push_map (f := impl_Model_standard_l1 m) m.2 (0, [], [], 0, []) (fun r => textF (canB r)) [] (fun _ => stdS (m.2.map (fun r => textF (canB r)))) (fun i out hi ho => ?_) ?_)
 ·have hmem : m.2.getD i (0, [], [], 0, []) ∈ m.2 := getD_memG hi
  have hok := rules_okV hm _ hmem
  have hsm := h.2.2 _ hmem
  unfold impl_Model_standard_l1
  dsimp only
  rw [cdec_pos (by omega), rq_pos ⟨by omega, by omega⟩, Int.toNat_natCast, impl_canonical_eq (n := m.1.length) (by omega) hsm hok, bind_s]
  have e := text_eq (n := m.1.length) (by omega) (canB_small hsm hok) (canB_ok hok)
  unfold canV
  dsimp only
  show (impl_Rule_text (canB (m.2.getD i (0, [], [], 0, [])))).bind _ = _
  rw [e, bind_s, rq_pos (by simp only [bound, List.length_cons, List.length_nil]; simp at ho; omega), rq_i64 (by omega) (by omega)]
 ·unfold impl_Model_standard_l1
  dsimp only
  rw [cdec_neg (by omega), List.nil_append, hj]
  rfl

theorem impl_SymmetryValid_eq (m : ModT) (p : List Int) (h : smallM m) (hp : p.length ≤ 1048576) : impl_SymmetryValid m p = some (symB m p) := by
 unfold impl_SymmetryValid symB
 rw [impl_PermValid_eq m p h hp, bind_s]
 cases hv : permB m p with
 | false => rw [cff, Bool.false_and]
 | true =>
  have hm := permB_mod hv
  have hl := modB_len hm
  have hlen : (stdS ((renM p m).2.map (fun r => textF (canB r)))).length ≤ 8 := by
   have := onceF_len [] (((renM p m).2.map (fun r => textF (canB r))).mergeSort fun x y => decide (x ≤ y)) ((renM p m).2.map (fun r => textF (canB r))).length
   have e : ((renM p m).2.map (fun r => textF (canB r))).length = m.2.length := by
    rw [List.length_map]
    show (m.2.map (renR p)).length = _
    rw [List.length_map]
   unfold stdS
   omega
  rw [ctt, Bool.true_and, impl_permuted_eq m p h hv, bind_s, standard_eq (renM_small p h) (modB_ren hv), bind_s, standard_eq h hm, bind_s, EqualText_eq _ _ (by omega), bind_s, std_same (n := m.1.length) (by omega) (ren_ok hv) (rules_ok hm)]

theorem spec_SameRule_eq {a b : RuleT} (ha : smallR a) : spec_l6SameRule a b = some (a == b) := by
 have hne : ∀ {x y : RuleT}, x ≠ y → (x == y) = false := fun h => beq_eq_false_iff_ne.2 h
 unfold spec_l6SameRule
 by_cases h1 : a.1 = b.1
 rotate_left
 ·rw [cbne_pos h1, hne (fun e => h1 (by rw [e]))]
 by_cases h2 : a.2.2.2.1 = b.2.2.2.1
 rotate_left
 ·rw [cbne_neg h1, cbne_pos h2, hne (fun e => h2 (by rw [e]))]
 rw [cbne_neg h1, cbne_neg h2, spec_l6Ints_eq _ _ ha.1, bind_s]
 by_cases h3 : a.2.1 = b.2.1
 rotate_left
 ·rw [beq_eq_false_iff_ne.2 h3, Bool.not_false, ctt, hne (fun e => h3 (by rw [e]))]
 rw [beq_iff_eq.2 h3, Bool.not_true, cff, spec_l6Ints_eq _ _ ha.2.1, bind_s]
 by_cases h4 : a.2.2.1 = b.2.2.1
 rotate_left
 ·rw [beq_eq_false_iff_ne.2 h4, Bool.not_false, ctt, hne (fun e => h4 (by rw [e]))]
 rw [beq_iff_eq.2 h4, Bool.not_true, cff]
 by_cases h5 : a.2.2.2.2.length = b.2.2.2.2.length
 rotate_left
 ·rw [cbne_pos (by omega), hne (fun e => h5 (by rw [e]))]
 rw [cbne_neg (by omega)]
 have hrl := ha.2.2.1
 refine loop_fn (f := spec_l6SameRule_l1 a b) (fun s : Int => ∃ i : Nat, s = i ∧ i ≤ a.2.2.2.2.length ∧ ∀ j, j < i → a.2.2.2.2.getD j [] = b.2.2.2.2.getD j []) (fun s => a.2.2.2.2.length - s.toNat) (fun _ => a == b) ?_ _ ⟨0, rfl, Nat.zero_le _, fun j hj => by omega⟩
 rintro s ⟨i, rfl, hi, he⟩
 unfold spec_l6SameRule_l1
 rcases Nat.lt_or_ge i a.2.2.2.2.length with h6 | h6
 ·have hx := ha.2.2.2 _ (getD_memG (d := []) h6)
  rw [cdec_pos (by omega), rq_pos ⟨by omega, by omega⟩, rq_pos ⟨by omega, by omega⟩, Int.toNat_natCast, spec_l6Ints_eq _ _ hx, bind_s]
  by_cases q : a.2.2.2.2.getD i [] = b.2.2.2.2.getD i []
  ·left
   rw [beq_iff_eq.2 q, Bool.not_true, cff, rq_i64 (by omega) (by omega)]
   refine ⟨_, rfl, ⟨i + 1, by simp, by omega, fun j hj => ?_⟩, by omega, rfl⟩
   rcases Nat.lt_or_ge j i with h | h
   ·exact he j h
   ·rw [show j = i by omega]; exact q
  ·right
   rw [beq_eq_false_iff_ne.2 q, Bool.not_false, ctt, hne (fun e => q (by rw [e]))]
 ·right
  have : i = a.2.2.2.2.length := by omega
  subst this
  rw [cdec_neg (by omega)]
  have e : a.2.2.2.2 = b.2.2.2.2 := by
   refine List.ext_getElem h5 (fun j j1 j2 => ?_)
   have := he j j1
   rw [List.getD_eq_getElem?_getD, List.getElem?_eq_getElem j1, List.getD_eq_getElem?_getD, List.getElem?_eq_getElem j2] at this
   exact this
  have : a = b := by
   obtain ⟨a1, a2, a3, a4, a5⟩ := a
   obtain ⟨b1, b2, b3, b4, b5⟩ := b
   dsimp only at h1 h2 h3 h4 e
   subst h1 h2 h3 h4 e
   rfl
  rw [beq_iff_eq.2 this]

theorem take_anyG {α : Type} {l : List α} {n : Nat} {d : α} {q : α → Bool} (h : n < l.length) : (l.take (n + 1)).any q = ((l.take n).any q || q (l.getD n d)) := by
 rw [take_snocG d h, List.any_append]
 simp

theorem spec_Within_eq {n : Int} {a b : ModT} (ha : smallM a) (hb : smallM b) (ra : ∀ r ∈ a.2, RuleOk n r) (rb : ∀ r ∈ b.2, RuleOk n r) : spec_l10Within a b = some (withinB a.2 b.2) := by
 have hal := ha.2.1
 have hbl := hb.2.1
 have inner : ∀ i : Nat, i < a.2.length → loop (spec_l10Within_l2 a b i) (false, (0 : Int)) = some (bif b.2.any (fun y => canB (a.2.getD i (0, [], [], 0, [])) == canB y) then .inl ((i : Int) + 1) else .inr false) := by
  intro i hi
  have hmem : a.2.getD i (0, [], [], 0, []) ∈ a.2 := getD_memG hi
  have ca := spec_canonical_eq (ha.2.2 _ hmem) (ra _ hmem)
  have sa := canB_small (ha.2.2 _ hmem) (ra _ hmem)
  refine loop_fn (f := spec_l10Within_l2 a b i) (fun s : Bool × Int => ∃ k : Nat, s.2 = k ∧ k ≤ b.2.length ∧ s.1 = (b.2.take k).any (fun y => canB (a.2.getD i (0, [], [], 0, [])) == canB y)) (fun s => b.2.length - s.2.toNat) (fun _ => bif b.2.any (fun y => canB (a.2.getD i (0, [], [], 0, [])) == canB y) then .inl ((i : Int) + 1) else .inr false) ?_ _ ⟨0, rfl, Nat.zero_le _, rfl⟩
  rintro ⟨f, s⟩ ⟨k, hk, hle, hf⟩
  dsimp only at hk hf ⊢
  subst hk
  unfold spec_l10Within_l2
  dsimp only
  rcases Nat.lt_or_ge k b.2.length with h1 | h1
  ·left
   have hst := take_anyG (l := b.2) (n := k) (d := (0, [], [], 0, [])) (q := fun y => canB (a.2.getD i (0, [], [], 0, [])) == canB y) h1
   rw [cdec_pos (by omega)]
   cases hf1 : f with
   | true =>
    rw [ctt, rq_i64 (by omega) (by omega)]
    refine ⟨_, rfl, ⟨k + 1, by simp, by omega, ?_⟩, by (try dsimp only) <;> omega, rfl⟩
    dsimp only
    rw [hst, ← hf, hf1, Bool.true_or]
   | false =>
    have hmb : b.2.getD k (0, [], [], 0, []) ∈ b.2 := getD_memG h1
    have cb := spec_canonical_eq (hb.2.2 _ hmb) (rb _ hmb)
    rw [cff, rq_pos ⟨by omega, by omega⟩, Int.toNat_natCast, ca, bind_s, rq_pos ⟨by omega, by omega⟩, Int.toNat_natCast, cb, bind_s]
    unfold canW
    dsimp only
    show ∃ s', (spec_l6SameRule (canB (a.2.getD i (0, [], [], 0, []))) (canB (b.2.getD k (0, [], [], 0, [])))).bind _ = _ ∧ _
    rw [spec_SameRule_eq sa, bind_s, rq_i64 (by omega) (by omega)]
    refine ⟨_, rfl, ⟨k + 1, by simp, by omega, ?_⟩, by (try dsimp only) <;> omega, rfl⟩
    dsimp only
    rw [hst, ← hf, hf1, Bool.false_or]
  ·right
   have : k = b.2.length := by omega
   subst this
   rw [List.take_length] at hf
   rw [cdec_neg (by omega), ← hf]
   cases f with
   | true => rw [Bool.not_true, cff, rq_i64 (by omega) (by omega), ctt]
   | false => rw [Bool.not_false, ctt, cff]
 unfold spec_l10Within
 rw [loop_all a.2.length (fun i => b.2.any (fun y => canB (a.2.getD i (0, [], [], 0, [])) == canB y)) false true]
 ·unfold withinB
  have e : (List.range a.2.length).all (fun i => b.2.any (fun y => canB (a.2.getD i (0, [], [], 0, [])) == canB y)) = a.2.all (fun x => b.2.any (fun y => canB x == canB y)) := by
   rw [Bool.eq_iff_iff, List.all_eq_true, List.all_eq_true]
   constructor
   ·intro h x hx
    obtain ⟨i, hi, rfl⟩ := List.mem_iff_getElem.1 hx
    have := h i (List.mem_range.2 hi)
    rw [List.getD_eq_getElem?_getD, List.getElem?_eq_getElem hi] at this
    exact this
   ·intro h i hi
    exact h _ (getD_memG (List.mem_range.1 hi))
  rw [e]
  cases a.2.all (fun x => b.2.any (fun y => canB x == canB y)) <;> rfl
 ·intro i hi _
  unfold spec_l10Within_l1
  rw [cdec_pos (by omega), inner i hi]
 ·unfold spec_l10Within_l1
  rw [cdec_neg (by omega)]

theorem spec_SymmetryValid_eq (m : ModT) (p : List Int) (h : smallM m) (hp : p.length ≤ 1048576) : spec_SymmetryValid m p = some (symB m p) := by
 unfold spec_SymmetryValid symB
 rw [spec_PermuteModel_eq m p h hp, bind_s]
 unfold renB
 cases hv : permB m p with
 | false => rw [cff, cff, Bool.false_and]
 | true =>
  have hm := permB_mod hv
  rw [ctt, Bool.true_and]
  dsimp only
  rw [ctt, spec_Within_eq (n := m.1.length) (renM_small p h) h (ren_ok hv) (rules_ok hm), bind_s]
  unfold sameB
  cases hw : withinB (renM p m).2 m.2 with
  | false => rw [cff, Bool.false_and]
  | true => rw [ctt, Bool.true_and, spec_Within_eq (n := m.1.length) h (renM_small p h) (rules_ok hm) (ren_ok hv), bind_s]

end Go.AE.Y
namespace Go.AE.Y
open Go Go.AE

def swapP (n i k : Nat) : List Int := ((nums n).set i k).set k i
theorem swapP_len (n i k : Nat) : (swapP n i k).length = n := by unfold swapP; rw [List.length_set, List.length_set, nums_len]
theorem swapP_get {n i k j : Nat} (hj : j < n) (hi : i < n) (hk : k < n) (hne : i ≠ k) : (swapP n i k).getD j 0 = if j = i then (k : Int) else if j = k then (i : Int) else j := by
 unfold swapP
 rw [List.getD_eq_getElem?_getD]
 by_cases h1 : j = k
 ·subst h1
  rw [List.getElem?_set_self (by rw [List.length_set, nums_len]; exact hj), if_neg (by omega), if_pos rfl]
  rfl
 ·rw [List.getElem?_set_ne (by omega)]
  by_cases h2 : j = i
  ·subst h2
   rw [List.getElem?_set_self (by rw [nums_len]; exact hj), if_pos rfl]
   rfl
  ·rw [List.getElem?_set_ne (by omega), if_neg h2, if_neg h1, ← List.getD_eq_getElem?_getD, nums_get hj]

def pairsW (m : ModT) (i k : Nat) : List (List Int) := ((List.range k).filter (fun q => decide (i < q) && symB m (swapP m.1.length i q))).map (fun q : Nat => [(i : Int), (q : Int)])
def swapsF (m : ModT) (i : Nat) : List (List Int) := (List.range i).flatMap (fun j => pairsW m j m.1.length)

theorem pairsW_len (m : ModT) (i k : Nat) : (pairsW m i k).length ≤ k := by
 unfold pairsW
 rw [List.length_map]
 exact Nat.le_trans (List.length_filter_le _ _) (Nat.le_of_eq List.length_range)
theorem pairsW_start (m : ModT) (i : Nat) : pairsW m i (i + 1) = [] := by
 unfold pairsW
 rw [List.map_eq_nil_iff, List.filter_eq_nil_iff]
 intro q hq
 rw [List.mem_range] at hq
 rw [decide_eq_false (by omega), Bool.false_and]
 exact Bool.false_ne_true
theorem pairsW_succ {m : ModT} {i k : Nat} (h : i < k) : pairsW m i (k + 1) = bif symB m (swapP m.1.length i k) then pairsW m i k ++ [[(i : Int), (k : Int)]] else pairsW m i k := by
 unfold pairsW
 rw [List.range_succ, List.filter_append, List.map_append]
 rw [List.filter_cons, List.filter_nil, decide_eq_true h, Bool.true_and]
 cases symB m (swapP m.1.length i k) with
 | true => rw [ctt]; rfl
 | false => rw [cff]; simp
theorem swapsF_succ (m : ModT) (i : Nat) : swapsF m (i + 1) = swapsF m i ++ pairsW m i m.1.length := by
 unfold swapsF
 rw [List.range_succ, List.flatMap_append]
 simp
theorem swapsF_len (m : ModT) : ∀ i, (swapsF m i).length ≤ i * m.1.length
 | 0 => Nat.zero_le _
 | i + 1 => by
  have := swapsF_len m i
  have := pairsW_len m i m.1.length
  rw [swapsF_succ, List.length_append, Nat.succ_mul]
  omega

theorem pairs_loop {R : Type} {m : ModT} (hn : m.1.length ≤ 5) {f1 : Int × List (List Int) → Option ((Int × List (List Int)) ⊕ R)} {f2 : Int → Int × List (List Int) → Option ((Int × List (List Int)) ⊕ ((Int × List (List Int)) ⊕ R))} {fin : List (List Int) → R}
  (h1 : ∀ (i : Nat) out, i < m.1.length → f1 (i, out) = loop (f2 i) ((i : Int) + 1, out)) (h2 : ∀ out, f1 (m.1.length, out) = some (.inr (fin out)))
  (h3 : ∀ (i k : Nat) out, i < k → k < m.1.length → out.length ≤ 1000 → f2 i (k, out) = some (.inl ((k : Int) + 1, bif symB m (swapP m.1.length i k) then out ++ [[(i : Int), (k : Int)]] else out)))
  (h4 : ∀ (i : Nat) out, i < m.1.length → f2 i (m.1.length, out) = some (.inr (.inl ((i : Int) + 1, out)))) : loop f1 ((0 : Int), []) = some (fin (swapsF m m.1.length)) := by
 refine loop_fn (f := f1) (fun s : Int × List (List Int) => ∃ i : Nat, s.1 = i ∧ i ≤ m.1.length ∧ s.2 = swapsF m i) (fun s => m.1.length - s.1.toNat) (fun _ => fin (swapsF m m.1.length)) ?_ _ ⟨0, rfl, Nat.zero_le _, rfl⟩
 rintro ⟨s, out⟩ ⟨i, hi, hle, ho⟩
 dsimp only at hi ho ⊢
 subst hi ho
 rcases Nat.lt_or_ge i m.1.length with h5 | h5
 ·left
  have hsl : (swapsF m i).length ≤ 25 := Nat.le_trans (swapsF_len m i) (Nat.mul_le_mul (by omega : i ≤ 5) hn)
  have key : loop (f2 i) ((i : Int) + 1, swapsF m i) = some (.inl ((i : Int) + 1, swapsF m (i + 1))) := by
   refine loop_fn (f := f2 i) (fun s : Int × List (List Int) => ∃ k : Nat, s.1 = k ∧ i < k ∧ k ≤ m.1.length ∧ s.2 = swapsF m i ++ pairsW m i k) (fun s => m.1.length - s.1.toNat) (fun _ => .inl ((i : Int) + 1, swapsF m (i + 1))) ?_ _ ⟨i + 1, by simp, by omega, by omega, by rw [pairsW_start, List.append_nil]⟩
   rintro ⟨s, out⟩ ⟨k, hk, hik, hkl, ho⟩
   dsimp only at hk ho ⊢
   subst hk ho
   rcases Nat.lt_or_ge k m.1.length with h6 | h6
   ·left
    have hpl := pairsW_len m i k
    refine ⟨_, h3 i k _ hik h6 (by rw [List.length_append]; omega), ⟨k + 1, by simp, by omega, by omega, ?_⟩, by (try dsimp only) <;> omega, rfl⟩
    dsimp only
    rw [pairsW_succ hik]
    cases symB m (swapP m.1.length i k) with
    | true => rw [ctt, ctt, List.append_assoc]
    | false => rw [cff, cff]
   ·right
    have : k = m.1.length := by omega
    subst this
    rw [h4 i _ h5, swapsF_succ]
  rw [h1 i _ h5, key]
  exact ⟨_, rfl, ⟨i + 1, by simp, by omega, rfl⟩, by (try dsimp only) <;> omega, rfl⟩
 ·right
  have : i = m.1.length := by omega
  subst this
  exact h2 _

theorem impl_pair {m : ModT} (h : smallM m) (hn : m.1.length ≤ 5) {i k : Nat} (hik : i < k) (hk : k < m.1.length) {out : List (List Int)} (ho : out.length ≤ 1000) :
  impl_FindSwaps_l2 m i (k, out) = some (.inl ((k : Int) + 1, bif symB m (swapP m.1.length i k) then out ++ [[(i : Int), (k : Int)]] else out)) := by
 unfold impl_FindSwaps_l2
 dsimp only
 have hj : impl_FindSwaps_j1 m i k out (nums m.1.length) = some (.inl ((k : Int) + 1, bif symB m (swapP m.1.length i k) then out ++ [[(i : Int), (k : Int)]] else out)) := by
  unfold impl_FindSwaps_j1
  have hl := nums_len m.1.length
  rw [rq_pos ⟨by omega, by omega⟩, Int.toNat_natCast, rq_pos ⟨by omega, by rw [List.length_set]; omega⟩, Int.toNat_natCast]
  have e : impl_SymmetryValid m (((nums m.1.length).set i k).set k i) = some (symB m (swapP m.1.length i k)) := impl_SymmetryValid_eq m (swapP m.1.length i k) h (by rw [swapP_len]; omega)
  rw [e, bind_s]
  cases symB m (swapP m.1.length i k) with
  | true => rw [ctt, ctt, rq_pos (by simp only [bound, List.length_cons, List.length_nil]; omega), rq_i64 (by omega) (by omega)]
  | false => rw [cff, cff, rq_i64 (by omega) (by omega)]
 rw [cdec_pos (by omega)]
 have hnum : nums m.1.length = (List.range m.1.length).map Int.ofNat := rfl
 refine (loop_push_map (f := impl_FindSwaps_l3 m i k out) (List.range m.1.length) 0 Int.ofNat [] (fun _ => .inl ((k : Int) + 1, bif symB m (swapP m.1.length i k) then out ++ [[(i : Int), (k : Int)]] else out)) (fun q o hq hl => ?_) ?_)
 ·rw [List.length_range] at hq
  unfold impl_FindSwaps_l3
  dsimp only
  rw [cdec_pos (by omega), rq_pos (by simp only [bound, List.length_cons, List.length_nil]; simp at hl; omega), rq_i64 (by omega) (by omega)]
  rw [List.getD_eq_getElem?_getD, List.getElem?_range hq]
  rfl
 ·unfold impl_FindSwaps_l3
  dsimp only
  rw [List.length_range, cdec_neg (by omega), List.nil_append, ← hnum, hj]
  rfl

theorem impl_FindSwaps_eq {m : ModT} (h : smallM m) : impl_FindSwaps m = some (bif modB m then swapsF m m.1.length else []) := by
 unfold impl_FindSwaps
 rw [impl_ModelValid_eq m h, bind_s]
 cases hm : modB m with
 | false => rw [Bool.not_false, ctt, cff]
 | true =>
  have hn := modB_len hm
  rw [Bool.not_true, cff, ctt]
  refine pairs_loop (f1 := impl_FindSwaps_l1 m) (f2 := impl_FindSwaps_l2 m) (fin := fun o => o) (by omega) (fun i out hi => ?_) (fun out => ?_) (fun i k out hik hk ho => impl_pair h (by omega) hik hk ho) (fun i out hi => ?_)
  ·unfold impl_FindSwaps_l1
   dsimp only
   rw [cdec_pos (by omega), rq_i64 (by omega) (by omega)]
  ·unfold impl_FindSwaps_l1
   dsimp only
   rw [cdec_neg (by omega)]
  ·unfold impl_FindSwaps_l2
   dsimp only
   rw [cdec_neg (by omega), rq_i64 (by omega) (by omega)]

theorem spec_swap_eq {n i k : Nat} (hik : i < k) (hk : k < n) (hn : n ≤ 5) : spec_l10Swap n i k = some (swapP n i k) := by
 unfold spec_l10Swap
 refine loop_fn (f := spec_l10Swap_l1 n i k) (fun s : Int × List Int => ∃ j : Nat, s.1 = j ∧ j ≤ n ∧ s.2 = (swapP n i k).take j) (fun s => n - s.1.toNat) (fun _ => swapP n i k) ?_ _ ⟨0, rfl, Nat.zero_le _, rfl⟩
 rintro ⟨s, out⟩ ⟨j, hj, hle, ho⟩
 dsimp only at hj ho ⊢
 subst hj ho
 unfold spec_l10Swap_l1
 dsimp only
 have hsl := swapP_len n i k
 have htl : ((swapP n i k).take j).length ≤ 5 := by rw [List.length_take]; omega
 rcases Nat.lt_or_ge j n with h1 | h1
 ·left
  have hst := take_snocG (l := swapP n i k) (n := j) 0 (by omega)
  have hg := swapP_get h1 (by omega : i < n) hk (by omega)
  rw [cdec_pos (by omega)]
  by_cases h2 : j = i
  ·rw [cbeq_pos (by omega), rq_pos (by simp only [bound, List.length_cons, List.length_nil]; omega), rq_i64 (by omega) (by omega)]
   refine ⟨_, rfl, ⟨j + 1, by simp, by omega, ?_⟩, by (try dsimp only) <;> omega, rfl⟩
   dsimp only
   rw [hst, hg, if_pos h2]
  ·rw [cbeq_neg (by omega)]
   by_cases h3 : j = k
   ·rw [cbeq_pos (by omega), rq_pos (by simp only [bound, List.length_cons, List.length_nil]; omega), rq_i64 (by omega) (by omega)]
    refine ⟨_, rfl, ⟨j + 1, by simp, by omega, ?_⟩, by (try dsimp only) <;> omega, rfl⟩
    dsimp only
    rw [hst, hg, if_neg h2, if_pos h3]
   ·rw [cbeq_neg (by omega), rq_pos (by simp only [bound, List.length_cons, List.length_nil]; omega), rq_i64 (by omega) (by omega)]
    refine ⟨_, rfl, ⟨j + 1, by simp, by omega, ?_⟩, by (try dsimp only) <;> omega, rfl⟩
    dsimp only
    rw [hst, hg, if_neg h2, if_neg h3]
 ·right
  have : j = n := by omega
  subst this
  rw [cdec_neg (by omega), List.take_of_length_le (by omega)]

theorem spec_FindSwaps_eq {m : ModT} (h : smallM m) : spec_FindSwaps m = some (bif modB m then swapsF m m.1.length else []) := by
 unfold spec_FindSwaps
 have hsl := h.1
 cases hm : modB m with
 | false =>
  rw [cff]
  refine loop_fn (f := spec_FindSwaps_l1 m) (fun s : Int × List (List Int) => s = (0, [])) (fun _ => 0) (fun _ => []) ?_ _ rfl
  rintro s rfl
  right
  unfold spec_FindSwaps_l1
  dsimp only
  rcases Nat.eq_zero_or_pos m.1.length with h0 | h0
  ·rw [cdec_neg (by omega)]
  ·rw [cdec_pos (by omega), spec_ModelValid_eq m h, hm, bind_s, cff]
 | true =>
  have hn := modB_len hm
  rw [ctt]
  refine pairs_loop (f1 := spec_FindSwaps_l1 m) (f2 := spec_FindSwaps_l2 m) (fin := fun o => o) (by omega) (fun i out hi => ?_) (fun out => ?_) (fun i k out hik hk ho => ?_) (fun i out hi => ?_)
  ·unfold spec_FindSwaps_l1
   dsimp only
   rw [cdec_pos (by omega), spec_ModelValid_eq m h, hm, bind_s, ctt, rq_i64 (by omega) (by omega)]
  ·unfold spec_FindSwaps_l1
   dsimp only
   rw [cdec_neg (by omega)]
  ·unfold spec_FindSwaps_l2
   dsimp only
   rw [cdec_pos (by omega), spec_swap_eq hik hk (by omega), bind_s, spec_SymmetryValid_eq m _ h (by rw [swapP_len]; omega), bind_s]
   cases symB m (swapP m.1.length i k) with
   | true => rw [ctt, ctt, rq_pos (by simp only [bound, List.length_cons, List.length_nil]; omega), rq_i64 (by omega) (by omega)]
   | false => rw [cff, cff, rq_i64 (by omega) (by omega)]
  ·unfold spec_FindSwaps_l2
   dsimp only
   rw [cdec_neg (by omega), rq_i64 (by omega) (by omega)]

theorem mem_swapsF {m : ModT} {n : Nat} {x : List Int} : x ∈ swapsF m n ↔ ∃ i k : Nat, i < n ∧ i < k ∧ k < m.1.length ∧ symB m (swapP m.1.length i k) = true ∧ x = [(i : Int), (k : Int)] := by
 unfold swapsF pairsW
 rw [List.mem_flatMap]
 constructor
 ·rintro ⟨i, hi, hx⟩
  obtain ⟨k, hk, rfl⟩ := List.mem_map.1 hx
  rw [List.mem_filter, Bool.and_eq_true, decide_eq_true_eq, List.mem_range] at hk
  exact ⟨i, k, List.mem_range.1 hi, hk.2.1, hk.1, hk.2.2, rfl⟩
 ·rintro ⟨i, k, h1, h2, h3, h4, rfl⟩
  refine ⟨i, List.mem_range.2 h1, List.mem_map.2 ⟨k, ?_, rfl⟩⟩
  rw [List.mem_filter, Bool.and_eq_true, decide_eq_true_eq, List.mem_range]
  exact ⟨h3, h2, h4⟩

def swapsB (m : ModT) : List (List Int) := bif modB m then swapsF m m.1.length else []
theorem swapsB_small (m : ModT) : (swapsB m).length ≤ 25 ∧ ∀ x ∈ swapsB m, x.length = 2 := by
 unfold swapsB
 cases hm : modB m with
 | false => rw [cff]; exact ⟨Nat.zero_le _, fun x hx => by cases hx⟩
 | true =>
  have hn := modB_len hm
  rw [ctt]
  refine ⟨Nat.le_trans (swapsF_len m _) (Nat.mul_le_mul hn.2.1 hn.2.1), fun x hx => ?_⟩
  obtain ⟨i, k, _, _, _, _, rfl⟩ := mem_swapsF.1 hx
  rfl

theorem spec_DrawFindSwaps_ok {a : List Int} (h : ∀ x ∈ a, 0 ≤ x ∧ x ≤ 255) : ∃ m, spec_DrawFindSwaps a = some m ∧ okM m := by
 unfold spec_DrawFindSwaps
 obtain ⟨r, e1, h1⟩ := open_ok h
 obtain ⟨r2, m, e2, a2, m2⟩ := spec_l10Model_ok (h1.wk (by omega))
 have h2 : RdOk r2 2000 := a2.ok h1 (by omega)
 have m2' : m.1.length ≤ 4 ∧ m.2.length ≤ 4 ∧ ∀ r ∈ m.2, okR r := m2
 obtain ⟨r3, m', e3, a3, m3⟩ := spec_l6Mutate_ok (m := m) (h2.wk (by omega)) m2'
 rw [e1, bind_s, e2, bind_s]
 dsimp only
 rw [e3, bind_s]
 exact ⟨m', rfl, okM_of m3⟩

end Go.AE.Y
namespace Go.AE.Y
open Go Go.AE

def okDm (d : List (List Bool)) : Prop := d.length ≤ 8 ∧ ∀ x ∈ d, x.length ≤ 8

theorem okDm.small {d : List (List Bool)} (h : okDm d) : smallD d := ⟨by have := h.1; omega, fun x hx => by have := h.2 x hx; omega⟩

end Go.AE.Y
namespace Go.AE.Y
open Go Go.AE

end Go.AE.Y
namespace Go.AE.Y
open Go Go.AE

theorem sym_solves {m : ModT} {p x : List Int} (hv : symB m p = true) (hx : x.length = p.length) : solvesB m (moveF p x x.length) = solvesB m x := by
 unfold symB at hv
 rw [Bool.and_eq_true] at hv
 have hm := permB_mod hv.1
 have e := same_solves (n := m.1.length) (s := m.1) (ren_ok hv.1) (rules_ok hm) hv.2 (moveF p x x.length)
 have e2 : solvesB (m.1, (renM p m).2) (moveF p x x.length) = solvesB (renM p m) (moveF p x x.length) := rfl
 have e3 : solvesB (m.1, m.2) (moveF p x x.length) = solvesB m (moveF p x x.length) := rfl
 rw [← e3, ← e, e2, solves_ren hv.1 hx]

end Go.AE.Y
namespace Go.AE.Y
open Go Go.AE

end Go.AE.Y
namespace Go.AE.Y
open Go Go.AE

def brkR (x : List Int) : RuleT := (1, x, [-1, 1], 0, [])
def brkM (m : ModT) : ModT := (m.1, m.2 ++ (swapsB m).map brkR)
def breakB (m : ModT) : Bool × List Int × List RuleT := bif modB m && decide (m.2.length + (swapsB m).length ≤ 8) then (true, brkM m) else (false, [], [])

theorem swapsB_at {m : ModT} (hm : modB m = true) {x : List Int} (h : x ∈ swapsB m) : ∃ i k : Nat, i < k ∧ k < m.1.length ∧ symB m (swapP m.1.length i k) = true ∧ x = [(i : Int), (k : Int)] := by
 unfold swapsB at h
 rw [hm, ctt] at h
 obtain ⟨i, k, _, h1, h2, h3, h4⟩ := mem_swapsF.1 h
 exact ⟨i, k, h1, h2, h3, h4⟩

theorem brk_ok {m : ModT} (hm : modB m = true) {x : List Int} (h : x ∈ swapsB m) : RuleOk m.1.length (brkR x) := by
 obtain ⟨i, k, h1, h2, _, rfl⟩ := swapsB_at hm h
 refine ⟨freshB_ofd (fun j hj => ?_) (fun a b ha hb e => ?_), by show 1 ≤ 2; omega, rfl, rfl⟩
 ·have hj : j < 2 := hj
  rcases Nat.lt_or_ge j 1 with q | q
  ·rw [show j = 0 by omega]
   show 0 ≤ (i : Int) ∧ (i : Int) ≤ m.1.length - 1
   omega
  ·rw [show j = 1 by omega]
   show 0 ≤ (k : Int) ∧ (k : Int) ≤ m.1.length - 1
   omega
 ·have ha : a < 2 := ha
  have hb : b < 2 := hb
  rcases Nat.lt_or_ge a 1 with q | q <;> rcases Nat.lt_or_ge b 1 with q' | q'
  ·omega
  ·rw [show a = 0 by omega, show b = 1 by omega] at e
   have e : (i : Int) = k := e
   omega
  ·rw [show a = 1 by omega, show b = 0 by omega] at e
   have e : (k : Int) = i := e
   omega
  ·omega

theorem brk_mod {m : ModT} (hm : modB m = true) : modB (brkM m) = decide (m.2.length + (swapsB m).length ≤ 8) := by
 have hall : (brkM m).2.all (ruleB m.1.length) = true := by
  rw [List.all_eq_true]
  intro r hr
  rcases List.mem_append.1 hr with q | q
  ·exact modB_rule1 hm q
  ·obtain ⟨x, hx, rfl⟩ := List.mem_map.1 q
   exact ruleB_c.2 (brk_ok hm hx)
 have hlen : (brkM m).2.length = m.2.length + (swapsB m).length := by
  show (m.2 ++ (swapsB m).map brkR).length = _
  rw [List.length_append, List.length_map]
 unfold modB at hm ⊢
 simp only [Bool.and_eq_true, decide_eq_true_eq] at hm
 show ((decide (1 ≤ m.1.length) && decide (m.1.length ≤ 5)) && (decide ((brkM m).2.length ≤ 8) && (m.1.all cellB && (decide (sumZ m.1 ≤ 12) && (brkM m).2.all (ruleB m.1.length))))) = _
 rw [hall, hlen, decide_eq_true hm.1.1, decide_eq_true hm.1.2, hm.2.2.1, decide_eq_true hm.2.2.2.1]
 simp

theorem impl_BreakSwaps_eq {m : ModT} (h : smallM m) : impl_BreakSwaps m = some (breakB m) := by
 unfold impl_BreakSwaps breakB
 rw [impl_ModelValid_eq m h, bind_s]
 cases hm : modB m with
 | false => rw [Bool.not_false, ctt, Bool.false_and, cff]
 | true =>
  have hl := modB_len hm
  obtain ⟨q1, q2⟩ := swapsB_small m
  have ei : impl_FindSwaps m = some (swapsB m) := impl_FindSwaps_eq h
  rw [Bool.not_true, cff, Bool.true_and, impl_Model_own_eq m h, bind_s, ei, bind_s]
  refine (loop_push_map (f := impl_BreakSwaps_l1 m (swapsB m)) (swapsB m) [] brkR m.2 (fun _ => bif decide (m.2.length + (swapsB m).length ≤ 8) then (true, brkM m) else (false, [], [])) (fun i out hi ho => ?_) ?_)
  ·unfold impl_BreakSwaps_l1
   dsimp only
   rw [cdec_pos (by omega), rq_pos ⟨by omega, by omega⟩, Int.toNat_natCast, rq_pos (by simp only [bound, List.length_cons, List.length_nil]; omega), rq_i64 (by omega) (by omega)]
   rfl
  ·unfold impl_BreakSwaps_l1
   dsimp only
   rw [cdec_neg (by omega)]
   unfold impl_BreakSwaps_j1
   have hlen : (m.2 ++ (swapsB m).map brkR).length = m.2.length + (swapsB m).length := by rw [List.length_append, List.length_map]
   by_cases h8 : m.2.length + (swapsB m).length ≤ 8
   ·rw [cdec_neg (by omega), decide_eq_true h8, ctt]
    rfl
   ·rw [cdec_pos (by omega), decide_eq_false h8, cff]
    rfl

theorem ownRows_eq (a : List (List Int)) (h : a.length ≤ 1048576) (hx : ∀ x ∈ a, x.length ≤ 1048576) : spec_l17OwnListListint a = some a := by
 unfold spec_l17OwnListListint
 refine (loop_push (f := spec_l17OwnListListint_l1 a) a [] [] id (fun i out hi ho => ?_) ?_).trans (by simp)
 ·have hy := hx _ (getD_memG (l := a) (n := i) (d := []) hi)
  unfold spec_l17OwnListListint_l1
  dsimp only
  rw [cdec_pos (by omega), rq_pos ⟨by omega, by omega⟩, Int.toNat_natCast, rq_pos (by simp only [bound, List.length_nil]; omega), rq_pos (by simp only [bound, List.length_cons, List.length_nil]; simp at ho; omega), rq_i64 (by omega) (by omega), List.nil_append]
 ·unfold spec_l17OwnListListint_l1
  dsimp only
  rw [cdec_neg (by omega)]
  rfl
theorem ownRule_eq (r : RuleT) (h : smallR r) : spec_l17OwnRule r = some (r.1, r.2.2.2.1, r.2.1, r.2.2.1, r.2.2.2.2) := by
 obtain ⟨h1, h2, h3, h4⟩ := h
 unfold spec_l17OwnRule
 rw [rq_pos (by simp only [bound, List.length_nil]; omega), rq_pos (by simp only [bound, List.length_nil]; omega), ownRows_eq _ h3 h4, bind_s, List.nil_append, List.nil_append]
theorem ownRules_eq (a : List RuleT) (h : a.length ≤ 1048576) (hx : ∀ r ∈ a, smallR r) : spec_l17OwnListRule a = some a := by
 unfold spec_l17OwnListRule
 refine (loop_push (f := spec_l17OwnListRule_l1 a) a (0, [], [], 0, []) [] id (fun i out hi ho => ?_) ?_).trans (by simp)
 ·have hy := hx _ (getD_memG (l := a) (n := i) (d := (0, [], [], 0, [])) hi)
  unfold spec_l17OwnListRule_l1
  dsimp only
  rw [cdec_pos (by omega), rq_pos ⟨by omega, by omega⟩, Int.toNat_natCast, ownRule_eq _ hy, bind_s, rq_pos (by simp only [bound, List.length_cons, List.length_nil]; simp at ho; omega), rq_i64 (by omega) (by omega)]
 ·unfold spec_l17OwnListRule_l1
  dsimp only
  rw [cdec_neg (by omega)]
  rfl
theorem ownModel_eq (m : ModT) (h : smallM m) : spec_l17OwnModel m = some m := by
 obtain ⟨h1, h2, h3⟩ := h
 unfold spec_l17OwnModel
 rw [rq_pos (by simp only [bound, List.length_nil]; omega), ownRules_eq _ h2 h3, bind_s, List.nil_append]

theorem brk_small {m : ModT} (h : smallM m) (hm : modB m = true) : smallM (brkM m) := by
 have hl := modB_len hm
 obtain ⟨q1, q2⟩ := swapsB_small m
 refine ⟨h.1, ?_, fun r hr => ?_⟩
 ·show (m.2 ++ (swapsB m).map brkR).length ≤ _
  rw [List.length_append, List.length_map]
  omega
 ·rcases List.mem_append.1 hr with q | q
  ·exact h.2.2 r q
  ·obtain ⟨x, hx, rfl⟩ := List.mem_map.1 q
   refine ⟨?_, by show 2 ≤ _; omega, by show 0 ≤ _; omega, fun y hy => by cases hy⟩
   show x.length ≤ _
   rw [q2 x hx]
   omega

theorem spec_BreakSwaps_eq {m : ModT} (h : smallM m) : spec_BreakSwaps m = some (breakB m) := by
 unfold spec_BreakSwaps breakB
 rw [ownModel_eq m h, bind_s, spec_ModelValid_eq m h, bind_s]
 cases hm : modB m with
 | false => rw [Bool.not_false, ctt, Bool.false_and, cff]
 | true =>
  have hl := modB_len hm
  obtain ⟨q1, q2⟩ := swapsB_small m
  have es : spec_FindSwaps m = some (swapsB m) := spec_FindSwaps_eq h
  rw [Bool.not_true, cff, Bool.true_and, spec_l6Copy_eq m h, bind_s, es, bind_s]
  refine (loop_push_map (f := spec_BreakSwaps_l1 m (swapsB m)) (swapsB m) [] brkR m.2 (fun _ => bif decide (m.2.length + (swapsB m).length ≤ 8) then (true, brkM m) else (false, [], [])) (fun i out hi ho => ?_) ?_)
  ·have hx2 := q2 _ (getD_memG (d := []) hi)
   obtain ⟨i', k', _, _, _, hx⟩ := swapsB_at hm (getD_memG (d := []) hi)
   unfold spec_BreakSwaps_l1
   dsimp only
   rw [cdec_pos (by omega), rq_pos ⟨by omega, by omega⟩, Int.toNat_natCast, hx, rq_pos ⟨by decide, by simp⟩, rq_pos ⟨by omega, by omega⟩, rq_pos ⟨by decide, by simp⟩, rq_pos (by simp only [bound, List.length_cons, List.length_nil]; omega), rq_i64 (by omega) (by omega)]
   rfl
  ·unfold spec_BreakSwaps_l1
   dsimp only
   rw [cdec_neg (by omega)]
   unfold spec_BreakSwaps_j1
   rw [show spec_ModelValid (m.1, m.2 ++ (swapsB m).map brkR) = some (modB (brkM m)) from spec_ModelValid_eq (brkM m) (brk_small h hm), bind_s, brk_mod hm]
   cases decide (m.2.length + (swapsB m).length ≤ 8) with
   | true => rw [Bool.not_true, cff, ctt]; rfl
   | false => rw [Bool.not_false, ctt, cff]; rfl

theorem brk_holds {x : List Int} (i k : Nat) : holdsB (brkR [(i : Int), (k : Int)]) (pickF [(i : Int), (k : Int)] x) = decide (x.getD i 0 ≤ x.getD k 0) := by
 have e : holdsB (brkR [(i : Int), (k : Int)]) (pickF [(i : Int), (k : Int)] x) = decide ((0 : Int) ≤ valZ [-1, 1] (pickF [(i : Int), (k : Int)] x) 2) := rfl
 have e2 : valZ [-1, 1] (pickF [(i : Int), (k : Int)] x) 2 = (0 + -1 * x.getD i 0) + 1 * x.getD k 0 := rfl
 rw [e, e2]
 by_cases h : x.getD i 0 ≤ x.getD k 0
 ·rw [decide_eq_true h, decide_eq_true (by omega)]
 ·rw [decide_eq_false h, decide_eq_false (by omega)]

theorem solves_brk {m : ModT} (x : List Int) : solvesB (brkM m) x = (solvesB m x && (swapsB m).all (fun p => holdsB (brkR p) (pickF p x))) := by
 unfold solvesB
 show (m.2 ++ (swapsB m).map brkR).all _ = _
 rw [List.all_append, List.all_map]
 rfl

theorem cells_digB {m : ModT} {x : List Int} (hm : modB m = true) (hx : cellsB m x = true) : digB x = true := by
 obtain ⟨x1, x2⟩ := cellsB_c hx
 unfold digB
 rw [List.all_eq_true]
 intro y hy
 obtain ⟨i, hi, rfl⟩ := List.mem_iff_getElem.1 hy
 have h1 := x2 i hi
 have h2 := modB_sz hm (by omega : i < m.1.length)
 rw [List.getD_eq_getElem?_getD, List.getElem?_eq_getElem hi] at h1
 simp only [Option.getD_some] at h1
 unfold cellB
 rw [decide_eq_true h1.1, decide_eq_true (by omega)]
 rfl

theorem swap_less {m : ModT} {x : List Int} {i k : Nat} (hm : modB m = true) (hx : cellsB m x = true) (hik : i < k) (hk : k < m.1.length) (hs : symB m (swapP m.1.length i k) = true) (hgt : x.getD k 0 < x.getD i 0) :
  rowK (moveF (swapP m.1.length i k) x x.length) < rowK x := by
 have hs' := hs
 unfold symB at hs'
 rw [Bool.and_eq_true] at hs'
 have hpm := hs'.1
 have hlen := (cellsB_c hx).1
 have hpl := swapP_len m.1.length i k
 have hmv := moveF_cells hpm hx
 have hget := fun j (hj : j < x.length) => moveF_get hpm (x := x) (by omega) x.length (by omega) j hj
 have hyl : (moveF (swapP m.1.length i k) x x.length).length = x.length := moveF_len _ _ _
 refine rowK_first hyl (cells_digB hm hmv) (cells_digB hm hx) (i := i) (by omega) (fun j hj => ?_) ?_
 ·have := hget j (by omega)
  rw [swapP_get (by omega) (by omega) hk (by omega), if_neg (by omega), if_neg (by omega), Int.toNat_natCast] at this
  exact this
 ·have := hget k (by omega)
  rw [swapP_get hk (by omega) hk (by omega), if_neg (by omega), if_pos rfl, Int.toNat_natCast] at this
  rw [this]
  exact hgt

theorem brk_some {m : ModT} (hm : modB m = true) : ∀ (n : Nat) (x : List Int), (rowK x).toNat ≤ n → cellsB m x = true → solvesB m x = true → ∃ y, cellsB m y = true ∧ solvesB (brkM m) y = true := by
 intro n
 induction n with
 | zero =>
  intro x hn hx hs
  by_cases h : (swapsB m).all (fun p => holdsB (brkR p) (pickF p x)) = true
  ·exact ⟨x, hx, by rw [solves_brk, hs, h]; rfl⟩
  ·exfalso
   rw [List.all_eq_true] at h
   obtain ⟨p, hp⟩ := Classical.not_forall.1 h
   obtain ⟨hp, hq⟩ := Classical.not_imp.1 hp
   obtain ⟨i, k, h1, h2, h3, rfl⟩ := swapsB_at hm hp
   rw [brk_holds, decide_eq_true_eq] at hq
   have := swap_less hm hx h1 h2 h3 (by omega)
   have hs' := h3
   unfold symB at hs'
   rw [Bool.and_eq_true] at hs'
   have h5 := (rowK_lt (cells_digB hm (moveF_cells hs'.1 hx))).1
   omega
 | succ n ih =>
  intro x hn hx hs
  by_cases h : (swapsB m).all (fun p => holdsB (brkR p) (pickF p x)) = true
  ·exact ⟨x, hx, by rw [solves_brk, hs, h]; rfl⟩
  ·rw [List.all_eq_true] at h
   obtain ⟨p, hp⟩ := Classical.not_forall.1 h
   obtain ⟨hp, hq⟩ := Classical.not_imp.1 hp
   obtain ⟨i, k, h1, h2, h3, rfl⟩ := swapsB_at hm hp
   rw [brk_holds, decide_eq_true_eq] at hq
   have hlt := swap_less hm hx h1 h2 h3 (by omega)
   have hs' := h3
   unfold symB at hs'
   rw [Bool.and_eq_true] at hs'
   have hmv := moveF_cells hs'.1 hx
   have h5 := (rowK_lt (cells_digB hm hmv)).1
   have hlen := (cellsB_c hx).1
   exact ih _ (by omega) hmv (by rw [sym_solves h3 (by rw [swapP_len]; exact hlen)]; exact hs)

theorem law_FnBreakSwaps {a : List Int} (ha : ∀ x ∈ a, 0 ≤ x ∧ x ≤ 255) : laws_FnBreakSwaps a = some true := by
 unfold laws_FnBreakSwaps
 by_cases h0 : 1048576 < (a.length : Int)
 ·rw [cdec_pos h0]
 rw [cdec_neg h0]
 obtain ⟨m, e1, hm⟩ := spec_DrawFindSwaps_ok ha
 have hs := hm.small
 have e1' : spec_DrawBreakSwaps a = some m := by
  unfold spec_DrawBreakSwaps
  rw [e1, bind_s]
 rw [e1', bind_s, impl_BreakSwaps_eq hs, bind_s, spec_BreakSwaps_eq hs, bind_s, bne_self_eq_false, cff]
 cases hb : modB m && decide (m.2.length + (swapsB m).length ≤ 8) with
 | false =>
  have e : breakB m = (false, [], []) := by unfold breakB; rw [hb, cff]
  have hso : smallM (([] : List Int), ([] : List RuleT)) := ⟨Nat.zero_le _, Nat.zero_le _, fun r hr => by cases hr⟩
  rw [e]
  dsimp only
  have eq : impl_ModelSame (([] : List Int), ([] : List RuleT)) (([] : List Int), ([] : List RuleT)) = some true := modelSame_self _ hso
  rw [eq, bind_s, Bool.not_true, cff, Bool.not_false, ctt, beq_self_eq_true, ctt, bind_s]
 | true =>
  have e : breakB m = (true, brkM m) := by unfold breakB; rw [hb, ctt]
  rw [Bool.and_eq_true, decide_eq_true_eq] at hb
  obtain ⟨hmod, hle⟩ := hb
  have hbm : modB (brkM m) = true := by rw [brk_mod hmod, decide_eq_true hle]
  have hbs := brk_small hs hmod
  have eq : impl_ModelSame (brkM m) (brkM m) = some true := modelSame_self _ hbs
  have hall : allF (brkM m) (zeroF (brkM m)) = allF m (zeroF m) := all_congr (m := brkM m) (m' := m) rfl
  have c1 : countZ m = (((allF m (zeroF m)).countP (solvesB m) : Nat) : Int) := by unfold countZ; rw [hmod, ctt]
  have c2 : countZ (brkM m) = (((allF m (zeroF m)).countP (solvesB (brkM m)) : Nat) : Int) := by unfold countZ; rw [hbm, ctt, hall]
  have hcle : (allF m (zeroF m)).countP (solvesB (brkM m)) ≤ (allF m (zeroF m)).countP (solvesB m) := List.countP_mono_left (fun x _ hx => by
   rw [solves_brk, Bool.and_eq_true] at hx
   exact hx.1)
  have hpos : 0 < (allF m (zeroF m)).countP (solvesB m) ↔ 0 < (allF m (zeroF m)).countP (solvesB (brkM m)) := by
   constructor
   ·intro h
    obtain ⟨x, hx, hsx⟩ := List.countP_pos_iff.1 h
    obtain ⟨y, hy, hsy⟩ := brk_some hmod _ x (Nat.le_refl _) ((mem_all hmod).1 hx) hsx
    exact List.countP_pos_iff.2 ⟨y, (mem_all hmod).2 hy, hsy⟩
   ·intro h
    omega
  rw [e]
  dsimp only
  rw [eq, bind_s, Bool.not_true, cff, cff, impl_CountModel_eq m hs, bind_s, impl_CountModel_eq _ hbs, bind_s, c1, c2]
  have hd : (decide ((0 : Int) < (((allF m (zeroF m)).countP (solvesB m) : Nat) : Int)) == decide ((0 : Int) < (((allF m (zeroF m)).countP (solvesB (brkM m)) : Nat) : Int))) = true := by
   rw [beq_iff_eq]
   by_cases h : 0 < (allF m (zeroF m)).countP (solvesB m)
   ·rw [decide_eq_true (by omega), decide_eq_true (by have := hpos.1 h; omega)]
   ·rw [decide_eq_false (by omega), decide_eq_false (by have := fun q => h (hpos.2 q); omega)]
  rw [hd, ctt, cdec_pos (by omega), impl_ModelValid_eq _ hbs, bind_s, hbm]
end Go.AE.Y
