/-
  Plain laws of the models, in one text. No conditions.
-/
import Derived.Test.YtgpinbepiniogaaGreatDoorPx1
namespace Go.AE.Y
open Go Go.AE

theorem CompactText_eq (s : List (List UInt8)) (hn : s.length ≤ 4000000000) : slices_Compact_string s = some (onceF [] s s.length) := by
 have h1 : ∀ n, 1 ≤ n → n ≤ s.length → (∀ k, 1 ≤ k → k < n → s.getD k [] ≠ s.getD (k - 1) []) → onceF [] s n = s.take n := by
  intro n
  induction n with
  | zero => intro h; omega
  | succ n ih =>
   intro _ h2 h3
   rw [take_snocG (l := s) (n := n) [] (by omega)]
   unfold onceF
   rcases Nat.lt_or_ge 0 n with h4 | h4
   ·rw [if_neg (fun h => h3 n h4 (by omega) h.2), ih h4 (by omega) (fun k k1 k2 => h3 k k1 (by omega))]
   ·have : n = 0 := by omega
    subst this
    rw [if_neg (fun h => absurd h.1 (by omega))]
    rfl
 unfold slices_Compact_string
 rcases Nat.lt_or_ge s.length 2 with h2 | h2
 ·rw [cdec_pos (by omega)]
  rcases Nat.lt_or_ge 0 s.length with h3 | h3
  ·rw [h1 s.length h3 (Nat.le_refl _) (fun k k1 k2 => by omega), List.take_length]
  ·have : s = [] := List.eq_nil_of_length_eq_zero (by omega)
   subst this
   rfl
 rw [cdec_neg (by omega)]
 refine loop_fn (f := slices_Compact_string_l1 s) (fun t : Int => ∃ n : Nat, t = n ∧ 1 ≤ n ∧ n ≤ s.length ∧ ∀ k, 1 ≤ k → k < n → s.getD k [] ≠ s.getD (k - 1) []) (fun t => s.length - t.toNat) (fun _ => onceF [] s s.length) ?_ _ ⟨1, rfl, by omega, by omega, fun k k1 k2 => by omega⟩
 rintro t ⟨n, rfl, n1, n2, n3⟩
 unfold slices_Compact_string_l1
 rcases Nat.lt_or_ge n s.length with h3 | h3
 ·rw [cdec_pos (by omega), rq_pos ⟨by omega, by omega⟩, rq_i64 (by omega) (by omega), rq_pos ⟨by omega, by omega⟩, Int.toNat_natCast, show ((n : Int) - 1).toNat = n - 1 by omega]
  by_cases q : s.getD n [] = s.getD (n - 1) []
  ·right
   rw [beq_iff_eq.2 q, ctt, rq_pos ⟨by omega, by omega⟩]
   have e0 : onceF [] s (n + 1) = s.take n := by
    unfold onceF
    rw [if_pos ⟨n1, q⟩, h1 n n1 n2 n3]
   refine loop_fn (f := slices_Compact_string_l2 n) (fun t : Int × Int × List (List UInt8) => ∃ b : Nat, t.2.1 = b ∧ 1 ≤ b ∧ n + b ≤ s.length ∧ t.1 = (onceF [] s (n + b)).length ∧ (onceF [] s (n + b)).length + 1 ≤ n + b ∧ t.2.2.length = s.length ∧ t.2.2.take (onceF [] s (n + b)).length = onceF [] s (n + b) ∧ ∀ j, n + b ≤ j + 1 → t.2.2.getD j [] = s.getD j []) (fun t => s.length - t.2.1.toNat) (fun _ => .inr (onceF [] s s.length)) ?_ _ ⟨1, rfl, Nat.le_refl _, by omega, ?_, ?_, rfl, ?_, fun _ _ => rfl⟩
   ·rintro ⟨k1, k2, a⟩ ⟨b, hb, b1, b2, b3, b4, b5, b6, b7⟩
    dsimp only at hb b3 b5 b6 b7 ⊢
    subst hb
    subst b3
    unfold slices_Compact_string_l2
    dsimp only
    rcases Nat.lt_or_ge (n + b) s.length with h4 | h4
    ·left
     have e1 : ((n : Int) + (b : Int)).toNat = n + b := by omega
     have e2 : ((n : Int) + ((b : Int) - 1)).toNat = n + b - 1 := by omega
     rw [cdec_pos (by omega), rq_pos ⟨by omega, by omega⟩, rq_i64 (by omega) (by omega), rq_pos ⟨by omega, by omega⟩, e1, e2, b7 (n + b) (by omega), b7 (n + b - 1) (by omega)]
     by_cases q2 : s.getD (n + b) [] = s.getD (n + b - 1) []
     ·have e3 : onceF [] s (n + (b + 1)) = onceF [] s (n + b) := by
       show onceF [] s (n + b + 1) = _
       conv => lhs; unfold onceF
       rw [if_pos ⟨by omega, q2⟩]
      rw [show (s.getD (n + b) [] != s.getD (n + b - 1) []) = false by rw [q2]; exact bne_self_eq_false _, cff, rq_i64 (by omega) (by omega)]
      refine ⟨_, rfl, ⟨b + 1, by simp, by omega, by omega, ?_, ?_, b5, ?_, fun j hj => b7 j (by omega)⟩, by (try dsimp only) <;> omega, rfl⟩
      ·rw [e3]
      ·rw [e3]; omega
      ·rw [e3]; exact b6
     ·have e3 : onceF [] s (n + (b + 1)) = onceF [] s (n + b) ++ [s.getD (n + b) []] := by
       show onceF [] s (n + b + 1) = _
       conv => lhs; unfold onceF
       rw [if_neg (fun h => q2 h.2)]
      have e4 : (onceF [] s (n + (b + 1))).length = (onceF [] s (n + b)).length + 1 := by rw [e3, List.length_append, List.length_singleton]
      rw [show (s.getD (n + b) [] != s.getD (n + b - 1) []) = true by rw [bne_iff_ne]; exact q2, ctt, rq_pos ⟨by omega, by omega⟩, rq_pos ⟨by omega, by omega⟩, rq_i64 (by omega) (by omega), rq_i64 (by omega) (by omega), Int.toNat_natCast]
      refine ⟨_, rfl, ⟨b + 1, by simp, by omega, by omega, ?_, ?_, ?_, ?_, fun j hj => ?_⟩, by (try dsimp only) <;> omega, rfl⟩
      ·rw [e4]; simp
      ·rw [e4]; omega
      ·dsimp only; rw [List.length_set]; exact b5
      ·dsimp only
       rw [e4, List.take_add_one, List.take_set_of_le (Nat.le_refl _), b6, List.getElem?_set_self (by omega), e3]
       rfl
      ·dsimp only
       rw [List.getD_eq_getElem?_getD, List.getElem?_set_ne (by omega), ← List.getD_eq_getElem?_getD]
       exact b7 j (by omega)
    ·right
     have e : n + b = s.length := by omega
     unfold slices_Compact_string_j1
     dsimp only
     rw [e] at b4 b6 ⊢
     have hl : (a.take (onceF [] s s.length).length ++ List.replicate (a.length - (onceF [] s s.length).length) ([] : List UInt8)).length = s.length := by rw [List.length_append, List.length_take, List.length_replicate]; omega
     rw [cdec_neg (by omega), rq_pos ⟨by omega, by omega⟩, Int.toNat_natCast, hl, rq_pos ⟨by omega, by omega⟩, b6, List.take_left' rfl]
     rfl
   ·dsimp only
    rw [e0, List.length_take]; omega
   ·rw [e0, List.length_take]; omega
   ·dsimp only
    rw [e0, List.length_take, Nat.min_eq_left n2]
  ·left
   rw [beq_eq_false_iff_ne.2 q, cff, rq_i64 (by omega) (by omega)]
   refine ⟨_, rfl, ⟨n + 1, by simp, by omega, by omega, fun k k1 k2 => ?_⟩, by omega, rfl⟩
   rcases Nat.lt_or_ge k n with h | h
   ·exact n3 k k1 h
   ·rw [show k = n by omega]; exact q
 ·right
  have : n = s.length := by omega
  rw [cdec_neg (by omega), h1 s.length (by omega) (Nat.le_refl _) (by rw [← this]; exact n3), List.take_length]

theorem EqualText_eq (a b : List (List UInt8)) (ha : a.length ≤ 1048576) : slices_Equal_string a b = some (a == b) := by
 unfold slices_Equal_string
 by_cases hl : a.length = b.length
 ·rw [cbne_neg (by omega)]
  refine loop_fn (f := slices_Equal_string_l1 a b) (fun s : Int => ∃ i : Nat, s = i ∧ i ≤ a.length ∧ ∀ j, j < i → a.getD j [] = b.getD j []) (fun s => a.length - s.toNat) (fun _ => a == b) ?_ _ ⟨0, rfl, Nat.zero_le _, fun j hj => by omega⟩
  rintro s ⟨i, rfl, hi, he⟩
  unfold slices_Equal_string_l1
  rcases Nat.lt_or_ge i a.length with h1 | h1
  ·rw [cdec_pos (by omega), rq_pos ⟨by omega, by omega⟩, rq_pos ⟨by omega, by omega⟩, Int.toNat_natCast]
   by_cases q : a.getD i [] = b.getD i []
   ·left
    rw [show (a.getD i [] != b.getD i []) = false by rw [q]; exact bne_self_eq_false _, cff, rq_i64 (by omega) (by omega)]
    refine ⟨_, rfl, ⟨i + 1, by simp, by omega, fun j hj => ?_⟩, by omega, rfl⟩
    rcases Nat.lt_or_ge j i with h | h
    ·exact he j h
    ·rw [show j = i by omega]; exact q
   ·right
    rw [show (a.getD i [] != b.getD i []) = true by rw [bne_iff_ne]; exact q, ctt]
    have : (a == b) = false := by
     rw [beq_eq_false_iff_ne]
     intro e
     exact q (by rw [e])
    rw [this]
  ·right
   have : i = a.length := by omega
   subst this
   rw [cdec_neg (by omega)]
   have e : a = b := by
    refine List.ext_getElem hl (fun j j1 j2 => ?_)
    have := he j j1
    rw [List.getD_eq_getElem?_getD, List.getElem?_eq_getElem j1, List.getD_eq_getElem?_getD, List.getElem?_eq_getElem j2] at this
    exact this
   rw [beq_iff_eq.2 e]
 ·rw [cbne_pos (by omega)]
  have : (a == b) = false := by
   rw [beq_eq_false_iff_ne]
   intro e
   exact hl (by rw [e])
  rw [this]

theorem standard_eq {m : ModT} (h : smallM m) (hm : modB m = true) : impl_Model_standard m = some (stdS (m.2.map (fun r => textF (canB r)))) := by
 have hl := modB_len hm
 have hj : impl_Model_standard_j1 (m.2.map (fun r => textF (canB r))) = some (stdS (m.2.map (fun r => textF (canB r)))) := by
  have hms : ((m.2.map (fun r => textF (canB r))).mergeSort fun x y => decide (x ≤ y)).length = (m.2.map (fun r => textF (canB r))).length := List.length_mergeSort _
  have hml : (m.2.map (fun r => textF (canB r))).length ≤ 8 := by rw [List.length_map]; omega
  unfold impl_Model_standard_j1 sortS
  rw [if_pos (by omega), bind_s, CompactText_eq _ (by omega), bind_s, hms]
  rfl
 unfold impl_Model_standard
 refine (loop_push_map (f := impl_Model_standard_l1 m) m.2 (0, [], [], 0, []) (fun r => textF (canB r)) [] (fun _ => stdS (m.2.map (fun r => textF (canB r)))) (fun i out hi ho => ?_) ?_)
 ·have hmem : m.2.getD i (0, [], [], 0, []) ∈ m.2 := getD_memG hi
  have hok := rules_okV hm _ hmem
  have hsm := h.2.2 _ hmem
  unfold impl_Model_standard_l1
  dsimp only
  rw [cdec_pos (by omega), rq_pos ⟨by omega, by omega⟩, Int.toNat_natCast, impl_canonical_eq (n := m.1.length) (by omega) hsm hok, bind_s]
  have e := text_eq (n := m.1.length) (by omega) (canB_small hsm hok) (canB_ok hok)
  unfold canV
  dsimp only
  show (impl_Rule_text (canB (m.2.getD i (0, [], [], 0, [])))).bind _ = _
  rw [e, bind_s, rq_pos (by simp only [bound, List.length_cons, List.length_nil]; simp at ho; omega), rq_i64 (by omega) (by omega)]
 ·unfold impl_Model_standard_l1
  dsimp only
  rw [cdec_neg (by omega), List.nil_append, hj]
  rfl

theorem impl_SymmetryValid_eq (m : ModT) (p : List Int) (h : smallM m) (hp : p.length ≤ 1048576) : impl_SymmetryValid m p = some (symB m p) := by
 unfold impl_SymmetryValid symB
 rw [impl_PermValid_eq m p h hp, bind_s]
 cases hv : permB m p with
 | false => rw [cff, Bool.false_and]
 | true =>
  have hm := permB_mod hv
  have hl := modB_len hm
  have hlen : (stdS ((renM p m).2.map (fun r => textF (canB r)))).length ≤ 8 := by
   have := onceF_len [] (((renM p m).2.map (fun r => textF (canB r))).mergeSort fun x y => decide (x ≤ y)) ((renM p m).2.map (fun r => textF (canB r))).length
   have e : ((renM p m).2.map (fun r => textF (canB r))).length = m.2.length := by
    rw [List.length_map]
    show (m.2.map (renR p)).length = _
    rw [List.length_map]
   unfold stdS
   omega
  rw [ctt, Bool.true_and, impl_permuted_eq m p h hv, bind_s, standard_eq (renM_small p h) (modB_ren hv), bind_s, standard_eq h hm, bind_s, EqualText_eq _ _ (by omega), bind_s, std_same (n := m.1.length) (by omega) (ren_ok hv) (rules_ok hm)]

theorem spec_SameRule_eq {a b : RuleT} (ha : smallR a) : spec_l6SameRule a b = some (a == b) := by
 have hne : ∀ {x y : RuleT}, x ≠ y → (x == y) = false := fun h => beq_eq_false_iff_ne.2 h
 unfold spec_l6SameRule
 by_cases h1 : a.1 = b.1
 rotate_left
 ·rw [cbne_pos h1, hne (fun e => h1 (by rw [e]))]
 by_cases h2 : a.2.2.2.1 = b.2.2.2.1
 rotate_left
 ·rw [cbne_neg h1, cbne_pos h2, hne (fun e => h2 (by rw [e]))]
 rw [cbne_neg h1, cbne_neg h2, spec_l6Ints_eq _ _ ha.1, bind_s]
 by_cases h3 : a.2.1 = b.2.1
 rotate_left
 ·rw [beq_eq_false_iff_ne.2 h3, Bool.not_false, ctt, hne (fun e => h3 (by rw [e]))]
 rw [beq_iff_eq.2 h3, Bool.not_true, cff, spec_l6Ints_eq _ _ ha.2.1, bind_s]
 by_cases h4 : a.2.2.1 = b.2.2.1
 rotate_left
 ·rw [beq_eq_false_iff_ne.2 h4, Bool.not_false, ctt, hne (fun e => h4 (by rw [e]))]
 rw [beq_iff_eq.2 h4, Bool.not_true, cff]
 by_cases h5 : a.2.2.2.2.length = b.2.2.2.2.length
 rotate_left
 ·rw [cbne_pos (by omega), hne (fun e => h5 (by rw [e]))]
 rw [cbne_neg (by omega)]
 have hrl := ha.2.2.1
 refine loop_fn (f := spec_l6SameRule_l1 a b) (fun s : Int => ∃ i : Nat, s = i ∧ i ≤ a.2.2.2.2.length ∧ ∀ j, j < i → a.2.2.2.2.getD j [] = b.2.2.2.2.getD j []) (fun s => a.2.2.2.2.length - s.toNat) (fun _ => a == b) ?_ _ ⟨0, rfl, Nat.zero_le _, fun j hj => by omega⟩
 rintro s ⟨i, rfl, hi, he⟩
 unfold spec_l6SameRule_l1
 rcases Nat.lt_or_ge i a.2.2.2.2.length with h6 | h6
 ·have hx := ha.2.2.2 _ (getD_memG (d := []) h6)
  rw [cdec_pos (by omega), rq_pos ⟨by omega, by omega⟩, rq_pos ⟨by omega, by omega⟩, Int.toNat_natCast, spec_l6Ints_eq _ _ hx, bind_s]
  by_cases q : a.2.2.2.2.getD i [] = b.2.2.2.2.getD i []
  ·left
   rw [beq_iff_eq.2 q, Bool.not_true, cff, rq_i64 (by omega) (by omega)]
   refine ⟨_, rfl, ⟨i + 1, by simp, by omega, fun j hj => ?_⟩, by omega, rfl⟩
   rcases Nat.lt_or_ge j i with h | h
   ·exact he j h
   ·rw [show j = i by omega]; exact q
  ·right
   rw [beq_eq_false_iff_ne.2 q, Bool.not_false, ctt, hne (fun e => q (by rw [e]))]
 ·right
  have : i = a.2.2.2.2.length := by omega
  subst this
  rw [cdec_neg (by omega)]
  have e : a.2.2.2.2 = b.2.2.2.2 := by
   refine List.ext_getElem h5 (fun j j1 j2 => ?_)
   have := he j j1
   rw [List.getD_eq_getElem?_getD, List.getElem?_eq_getElem j1, List.getD_eq_getElem?_getD, List.getElem?_eq_getElem j2] at this
   exact this
  have : a = b := by
   obtain ⟨a1, a2, a3, a4, a5⟩ := a
   obtain ⟨b1, b2, b3, b4, b5⟩ := b
   dsimp only at h1 h2 h3 h4 e
   subst h1 h2 h3 h4 e
   rfl
  rw [beq_iff_eq.2 this]

theorem take_anyG {α : Type} {l : List α} {n : Nat} {d : α} {q : α → Bool} (h : n < l.length) : (l.take (n + 1)).any q = ((l.take n).any q || q (l.getD n d)) := by
 rw [take_snocG d h, List.any_append]
 simp

theorem spec_Within_eq {n : Int} {a b : ModT} (ha : smallM a) (hb : smallM b) (ra : ∀ r ∈ a.2, RuleOk n r) (rb : ∀ r ∈ b.2, RuleOk n r) : spec_l10Within a b = some (withinB a.2 b.2) := by
 have hal := ha.2.1
 have hbl := hb.2.1
 have inner : ∀ i : Nat, i < a.2.length → loop (spec_l10Within_l2 a b i) (false, (0 : Int)) = some (bif b.2.any (fun y => canB (a.2.getD i (0, [], [], 0, [])) == canB y) then .inl ((i : Int) + 1) else .inr false) := by
  intro i hi
  have hmem : a.2.getD i (0, [], [], 0, []) ∈ a.2 := getD_memG hi
  have ca := spec_canonical_eq (ha.2.2 _ hmem) (ra _ hmem)
  have sa := canB_small (ha.2.2 _ hmem) (ra _ hmem)
  refine loop_fn (f := spec_l10Within_l2 a b i) (fun s : Bool × Int => ∃ k : Nat, s.2 = k ∧ k ≤ b.2.length ∧ s.1 = (b.2.take k).any (fun y => canB (a.2.getD i (0, [], [], 0, [])) == canB y)) (fun s => b.2.length - s.2.toNat) (fun _ => bif b.2.any (fun y => canB (a.2.getD i (0, [], [], 0, [])) == canB y) then .inl ((i : Int) + 1) else .inr false) ?_ _ ⟨0, rfl, Nat.zero_le _, rfl⟩
  rintro ⟨f, s⟩ ⟨k, hk, hle, hf⟩
  dsimp only at hk hf ⊢
  subst hk
  unfold spec_l10Within_l2
  dsimp only
  rcases Nat.lt_or_ge k b.2.length with h1 | h1
  ·left
   have hst := take_anyG (l := b.2) (n := k) (d := (0, [], [], 0, [])) (q := fun y => canB (a.2.getD i (0, [], [], 0, [])) == canB y) h1
   rw [cdec_pos (by omega)]
   cases hf1 : f with
   | true =>
    rw [ctt, rq_i64 (by omega) (by omega)]
    refine ⟨_, rfl, ⟨k + 1, by simp, by omega, ?_⟩, by (try dsimp only) <;> omega, rfl⟩
    dsimp only
    rw [hst, ← hf, hf1, Bool.true_or]
   | false =>
    have hmb : b.2.getD k (0, [], [], 0, []) ∈ b.2 := getD_memG h1
    have cb := spec_canonical_eq (hb.2.2 _ hmb) (rb _ hmb)
    rw [cff, rq_pos ⟨by omega, by omega⟩, Int.toNat_natCast, ca, bind_s, rq_pos ⟨by omega, by omega⟩, Int.toNat_natCast, cb, bind_s]
    unfold canW
    dsimp only
    show ∃ s', (spec_l6SameRule (canB (a.2.getD i (0, [], [], 0, []))) (canB (b.2.getD k (0, [], [], 0, [])))).bind _ = _ ∧ _
    rw [spec_SameRule_eq sa, bind_s, rq_i64 (by omega) (by omega)]
    refine ⟨_, rfl, ⟨k + 1, by simp, by omega, ?_⟩, by (try dsimp only) <;> omega, rfl⟩
    dsimp only
    rw [hst, ← hf, hf1, Bool.false_or]
  ·right
   have : k = b.2.length := by omega
   subst this
   rw [List.take_length] at hf
   rw [cdec_neg (by omega), ← hf]
   cases f with
   | true => rw [Bool.not_true, cff, rq_i64 (by omega) (by omega), ctt]
   | false => rw [Bool.not_false, ctt, cff]
 unfold spec_l10Within
 rw [loop_all a.2.length (fun i => b.2.any (fun y => canB (a.2.getD i (0, [], [], 0, [])) == canB y)) false true]
 ·unfold withinB
  have e : (List.range a.2.length).all (fun i => b.2.any (fun y => canB (a.2.getD i (0, [], [], 0, [])) == canB y)) = a.2.all (fun x => b.2.any (fun y => canB x == canB y)) := by
   rw [Bool.eq_iff_iff, List.all_eq_true, List.all_eq_true]
   constructor
   ·intro h x hx
    obtain ⟨i, hi, rfl⟩ := List.mem_iff_getElem.1 hx
    have := h i (List.mem_range.2 hi)
    rw [List.getD_eq_getElem?_getD, List.getElem?_eq_getElem hi] at this
    exact this
   ·intro h i hi
    exact h _ (getD_memG (List.mem_range.1 hi))
  rw [e]
  cases a.2.all (fun x => b.2.any (fun y => canB x == canB y)) <;> rfl
 ·intro i hi _
  unfold spec_l10Within_l1
  rw [cdec_pos (by omega), inner i hi]
 ·unfold spec_l10Within_l1
  rw [cdec_neg (by omega)]

theorem spec_SymmetryValid_eq (m : ModT) (p : List Int) (h : smallM m) (hp : p.length ≤ 1048576) : spec_SymmetryValid m p = some (symB m p) := by
 unfold spec_SymmetryValid symB
 rw [spec_PermuteModel_eq m p h hp, bind_s]
 unfold renB
 cases hv : permB m p with
 | false => rw [cff, cff, Bool.false_and]
 | true =>
  have hm := permB_mod hv
  rw [ctt, Bool.true_and]
  dsimp only
  rw [ctt, spec_Within_eq (n := m.1.length) (renM_small p h) h (ren_ok hv) (rules_ok hm), bind_s]
  unfold sameB
  cases hw : withinB (renM p m).2 m.2 with
  | false => rw [cff, Bool.false_and]
  | true => rw [ctt, Bool.true_and, spec_Within_eq (n := m.1.length) h (renM_small p h) (rules_ok hm) (ren_ok hv), bind_s]

end Go.AE.Y
namespace Go.AE.Y
open Go Go.AE

def swapP (n i k : Nat) : List Int := ((nums n).set i k).set k i
theorem swapP_len (n i k : Nat) : (swapP n i k).length = n := by unfold swapP; rw [List.length_set, List.length_set, nums_len]
theorem swapP_get {n i k j : Nat} (hj : j < n) (hi : i < n) (hk : k < n) (hne : i ≠ k) : (swapP n i k).getD j 0 = if j = i then (k : Int) else if j = k then (i : Int) else j := by
 unfold swapP
 rw [List.getD_eq_getElem?_getD]
 by_cases h1 : j = k
 ·subst h1
  rw [List.getElem?_set_self (by rw [List.length_set, nums_len]; exact hj), if_neg (by omega), if_pos rfl]
  rfl
 ·rw [List.getElem?_set_ne (by omega)]
  by_cases h2 : j = i
  ·subst h2
   rw [List.getElem?_set_self (by rw [nums_len]; exact hj), if_pos rfl]
   rfl
  ·rw [List.getElem?_set_ne (by omega), if_neg h2, if_neg h1, ← List.getD_eq_getElem?_getD, nums_get hj]

def pairsW (m : ModT) (i k : Nat) : List (List Int) := ((List.range k).filter (fun q => decide (i < q) && symB m (swapP m.1.length i q))).map (fun q : Nat => [(i : Int), (q : Int)])
def swapsF (m : ModT) (i : Nat) : List (List Int) := (List.range i).flatMap (fun j => pairsW m j m.1.length)

theorem pairsW_len (m : ModT) (i k : Nat) : (pairsW m i k).length ≤ k := by
 unfold pairsW
 rw [List.length_map]
 exact Nat.le_trans (List.length_filter_le _ _) (Nat.le_of_eq List.length_range)
theorem pairsW_start (m : ModT) (i : Nat) : pairsW m i (i + 1) = [] := by
 unfold pairsW
 rw [List.map_eq_nil_iff, List.filter_eq_nil_iff]
 intro q hq
 rw [List.mem_range] at hq
 rw [decide_eq_false (by omega), Bool.false_and]
 exact Bool.false_ne_true
theorem pairsW_succ {m : ModT} {i k : Nat} (h : i < k) : pairsW m i (k + 1) = bif symB m (swapP m.1.length i k) then pairsW m i k ++ [[(i : Int), (k : Int)]] else pairsW m i k := by
 unfold pairsW
 rw [List.range_succ, List.filter_append, List.map_append]
 rw [List.filter_cons, List.filter_nil, decide_eq_true h, Bool.true_and]
 cases symB m (swapP m.1.length i k) with
 | true => rw [ctt]; rfl
 | false => rw [cff]; simp
theorem swapsF_succ (m : ModT) (i : Nat) : swapsF m (i + 1) = swapsF m i ++ pairsW m i m.1.length := by
 unfold swapsF
 rw [List.range_succ, List.flatMap_append]
 simp
theorem swapsF_len (m : ModT) : ∀ i, (swapsF m i).length ≤ i * m.1.length
 | 0 => Nat.zero_le _
 | i + 1 => by
  have := swapsF_len m i
  have := pairsW_len m i m.1.length
  rw [swapsF_succ, List.length_append, Nat.succ_mul]
  omega

theorem pairs_loop {R : Type} {m : ModT} (hn : m.1.length ≤ 5) {f1 : Int × List (List Int) → Option ((Int × List (List Int)) ⊕ R)} {f2 : Int → Int × List (List Int) → Option ((Int × List (List Int)) ⊕ ((Int × List (List Int)) ⊕ R))} {fin : List (List Int) → R}
  (h1 : ∀ (i : Nat) out, i < m.1.length → f1 (i, out) = loop (f2 i) ((i : Int) + 1, out)) (h2 : ∀ out, f1 (m.1.length, out) = some (.inr (fin out)))
  (h3 : ∀ (i k : Nat) out, i < k → k < m.1.length → out.length ≤ 1000 → f2 i (k, out) = some (.inl ((k : Int) + 1, bif symB m (swapP m.1.length i k) then out ++ [[(i : Int), (k : Int)]] else out)))
  (h4 : ∀ (i : Nat) out, i < m.1.length → f2 i (m.1.length, out) = some (.inr (.inl ((i : Int) + 1, out)))) : loop f1 ((0 : Int), []) = some (fin (swapsF m m.1.length)) := by
 refine loop_fn (f := f1) (fun s : Int × List (List Int) => ∃ i : Nat, s.1 = i ∧ i ≤ m.1.length ∧ s.2 = swapsF m i) (fun s => m.1.length - s.1.toNat) (fun _ => fin (swapsF m m.1.length)) ?_ _ ⟨0, rfl, Nat.zero_le _, rfl⟩
 rintro ⟨s, out⟩ ⟨i, hi, hle, ho⟩
 dsimp only at hi ho ⊢
 subst hi ho
 rcases Nat.lt_or_ge i m.1.length with h5 | h5
 ·left
  have hsl : (swapsF m i).length ≤ 25 := Nat.le_trans (swapsF_len m i) (Nat.mul_le_mul (by omega : i ≤ 5) hn)
  have key : loop (f2 i) ((i : Int) + 1, swapsF m i) = some (.inl ((i : Int) + 1, swapsF m (i + 1))) := by
   refine loop_fn (f := f2 i) (fun s : Int × List (List Int) => ∃ k : Nat, s.1 = k ∧ i < k ∧ k ≤ m.1.length ∧ s.2 = swapsF m i ++ pairsW m i k) (fun s => m.1.length - s.1.toNat) (fun _ => .inl ((i : Int) + 1, swapsF m (i + 1))) ?_ _ ⟨i + 1, by simp, by omega, by omega, by rw [pairsW_start, List.append_nil]⟩
   rintro ⟨s, out⟩ ⟨k, hk, hik, hkl, ho⟩
   dsimp only at hk ho ⊢
   subst hk ho
   rcases Nat.lt_or_ge k m.1.length with h6 | h6
   ·left
    have hpl := pairsW_len m i k
    refine ⟨_, h3 i k _ hik h6 (by rw [List.length_append]; omega), ⟨k + 1, by simp, by omega, by omega, ?_⟩, by (try dsimp only) <;> omega, rfl⟩
    dsimp only
    rw [pairsW_succ hik]
    cases symB m (swapP m.1.length i k) with
    | true => rw [ctt, ctt, List.append_assoc]
    | false => rw [cff, cff]
   ·right
    have : k = m.1.length := by omega
    subst this
    rw [h4 i _ h5, swapsF_succ]
  rw [h1 i _ h5, key]
  exact ⟨_, rfl, ⟨i + 1, by simp, by omega, rfl⟩, by (try dsimp only) <;> omega, rfl⟩
 ·right
  have : i = m.1.length := by omega
  subst this
  exact h2 _

theorem impl_pair {m : ModT} (h : smallM m) (hn : m.1.length ≤ 5) {i k : Nat} (hik : i < k) (hk : k < m.1.length) {out : List (List Int)} (ho : out.length ≤ 1000) :
  impl_FindSwaps_l2 m i (k, out) = some (.inl ((k : Int) + 1, bif symB m (swapP m.1.length i k) then out ++ [[(i : Int), (k : Int)]] else out)) := by
 unfold impl_FindSwaps_l2
 dsimp only
 have hj : impl_FindSwaps_j1 m i k out (nums m.1.length) = some (.inl ((k : Int) + 1, bif symB m (swapP m.1.length i k) then out ++ [[(i : Int), (k : Int)]] else out)) := by
  unfold impl_FindSwaps_j1
  have hl := nums_len m.1.length
  rw [rq_pos ⟨by omega, by omega⟩, Int.toNat_natCast, rq_pos ⟨by omega, by rw [List.length_set]; omega⟩, Int.toNat_natCast]
  have e : impl_SymmetryValid m (((nums m.1.length).set i k).set k i) = some (symB m (swapP m.1.length i k)) := impl_SymmetryValid_eq m (swapP m.1.length i k) h (by rw [swapP_len]; omega)
  rw [e, bind_s]
  cases symB m (swapP m.1.length i k) with
  | true => rw [ctt, ctt, rq_pos (by simp only [bound, List.length_cons, List.length_nil]; omega), rq_i64 (by omega) (by omega)]
  | false => rw [cff, cff, rq_i64 (by omega) (by omega)]
 rw [cdec_pos (by omega)]
 have hnum : nums m.1.length = (List.range m.1.length).map Int.ofNat := rfl
 refine (loop_push_map (f := impl_FindSwaps_l3 m i k out) (List.range m.1.length) 0 Int.ofNat [] (fun _ => .inl ((k : Int) + 1, bif symB m (swapP m.1.length i k) then out ++ [[(i : Int), (k : Int)]] else out)) (fun q o hq hl => ?_) ?_)
 ·rw [List.length_range] at hq
  unfold impl_FindSwaps_l3
  dsimp only
  rw [cdec_pos (by omega), rq_pos (by simp only [bound, List.length_cons, List.length_nil]; simp at hl; omega), rq_i64 (by omega) (by omega)]
  rw [List.getD_eq_getElem?_getD, List.getElem?_range hq]
  rfl
 ·unfold impl_FindSwaps_l3
  dsimp only
  rw [List.length_range, cdec_neg (by omega), List.nil_append, ← hnum, hj]
  rfl

theorem impl_FindSwaps_eq {m : ModT} (h : smallM m) : impl_FindSwaps m = some (bif modB m then swapsF m m.1.length else []) := by
 unfold impl_FindSwaps
 rw [impl_ModelValid_eq m h, bind_s]
 cases hm : modB m with
 | false => rw [Bool.not_false, ctt, cff]
 | true =>
  have hn := modB_len hm
  rw [Bool.not_true, cff, ctt]
  refine pairs_loop (f1 := impl_FindSwaps_l1 m) (f2 := impl_FindSwaps_l2 m) (fin := fun o => o) (by omega) (fun i out hi => ?_) (fun out => ?_) (fun i k out hik hk ho => impl_pair h (by omega) hik hk ho) (fun i out hi => ?_)
  ·unfold impl_FindSwaps_l1
   dsimp only
   rw [cdec_pos (by omega), rq_i64 (by omega) (by omega)]
  ·unfold impl_FindSwaps_l1
   dsimp only
   rw [cdec_neg (by omega)]
  ·unfold impl_FindSwaps_l2
   dsimp only
   rw [cdec_neg (by omega), rq_i64 (by omega) (by omega)]

theorem spec_swap_eq {n i k : Nat} (hik : i < k) (hk : k < n) (hn : n ≤ 5) : spec_l10Swap n i k = some (swapP n i k) := by
 unfold spec_l10Swap
 refine loop_fn (f := spec_l10Swap_l1 n i k) (fun s : Int × List Int => ∃ j : Nat, s.1 = j ∧ j ≤ n ∧ s.2 = (swapP n i k).take j) (fun s => n - s.1.toNat) (fun _ => swapP n i k) ?_ _ ⟨0, rfl, Nat.zero_le _, rfl⟩
 rintro ⟨s, out⟩ ⟨j, hj, hle, ho⟩
 dsimp only at hj ho ⊢
 subst hj ho
 unfold spec_l10Swap_l1
 dsimp only
 have hsl := swapP_len n i k
 have htl : ((swapP n i k).take j).length ≤ 5 := by rw [List.length_take]; omega
 rcases Nat.lt_or_ge j n with h1 | h1
 ·left
  have hst := take_snocG (l := swapP n i k) (n := j) 0 (by omega)
  have hg := swapP_get h1 (by omega : i < n) hk (by omega)
  rw [cdec_pos (by omega)]
  by_cases h2 : j = i
  ·rw [cbeq_pos (by omega), rq_pos (by simp only [bound, List.length_cons, List.length_nil]; omega), rq_i64 (by omega) (by omega)]
   refine ⟨_, rfl, ⟨j + 1, by simp, by omega, ?_⟩, by (try dsimp only) <;> omega, rfl⟩
   dsimp only
   rw [hst, hg, if_pos h2]
  ·rw [cbeq_neg (by omega)]
   by_cases h3 : j = k
   ·rw [cbeq_pos (by omega), rq_pos (by simp only [bound, List.length_cons, List.length_nil]; omega), rq_i64 (by omega) (by omega)]
    refine ⟨_, rfl, ⟨j + 1, by simp, by omega, ?_⟩, by (try dsimp only) <;> omega, rfl⟩
    dsimp only
    rw [hst, hg, if_neg h2, if_pos h3]
   ·rw [cbeq_neg (by omega), rq_pos (by simp only [bound, List.length_cons, List.length_nil]; omega), rq_i64 (by omega) (by omega)]
    refine ⟨_, rfl, ⟨j + 1, by simp, by omega, ?_⟩, by (try dsimp only) <;> omega, rfl⟩
    dsimp only
    rw [hst, hg, if_neg h2, if_neg h3]
 ·right
  have : j = n := by omega
  subst this
  rw [cdec_neg (by omega), List.take_of_length_le (by omega)]

theorem spec_FindSwaps_eq {m : ModT} (h : smallM m) : spec_FindSwaps m = some (bif modB m then swapsF m m.1.length else []) := by
 unfold spec_FindSwaps
 have hsl := h.1
 cases hm : modB m with
 | false =>
  rw [cff]
  refine loop_fn (f := spec_FindSwaps_l1 m) (fun s : Int × List (List Int) => s = (0, [])) (fun _ => 0) (fun _ => []) ?_ _ rfl
  rintro s rfl
  right
  unfold spec_FindSwaps_l1
  dsimp only
  rcases Nat.eq_zero_or_pos m.1.length with h0 | h0
  ·rw [cdec_neg (by omega)]
  ·rw [cdec_pos (by omega), spec_ModelValid_eq m h, hm, bind_s, cff]
 | true =>
  have hn := modB_len hm
  rw [ctt]
  refine pairs_loop (f1 := spec_FindSwaps_l1 m) (f2 := spec_FindSwaps_l2 m) (fin := fun o => o) (by omega) (fun i out hi => ?_) (fun out => ?_) (fun i k out hik hk ho => ?_) (fun i out hi => ?_)
  ·unfold spec_FindSwaps_l1
   dsimp only
   rw [cdec_pos (by omega), spec_ModelValid_eq m h, hm, bind_s, ctt, rq_i64 (by omega) (by omega)]
  ·unfold spec_FindSwaps_l1
   dsimp only
   rw [cdec_neg (by omega)]
  ·unfold spec_FindSwaps_l2
   dsimp only
   rw [cdec_pos (by omega), spec_swap_eq hik hk (by omega), bind_s, spec_SymmetryValid_eq m _ h (by rw [swapP_len]; omega), bind_s]
   cases symB m (swapP m.1.length i k) with
   | true => rw [ctt, ctt, rq_pos (by simp only [bound, List.length_cons, List.length_nil]; omega), rq_i64 (by omega) (by omega)]
   | false => rw [cff, cff, rq_i64 (by omega) (by omega)]
  ·unfold spec_FindSwaps_l2
   dsimp only
   rw [cdec_neg (by omega), rq_i64 (by omega) (by omega)]

theorem mem_swapsF {m : ModT} {n : Nat} {x : List Int} : x ∈ swapsF m n ↔ ∃ i k : Nat, i < n ∧ i < k ∧ k < m.1.length ∧ symB m (swapP m.1.length i k) = true ∧ x = [(i : Int), (k : Int)] := by
 unfold swapsF pairsW
 rw [List.mem_flatMap]
 constructor
 ·rintro ⟨i, hi, hx⟩
  obtain ⟨k, hk, rfl⟩ := List.mem_map.1 hx
  rw [List.mem_filter, Bool.and_eq_true, decide_eq_true_eq, List.mem_range] at hk
  exact ⟨i, k, List.mem_range.1 hi, hk.2.1, hk.1, hk.2.2, rfl⟩
 ·rintro ⟨i, k, h1, h2, h3, h4, rfl⟩
  refine ⟨i, List.mem_range.2 h1, List.mem_map.2 ⟨k, ?_, rfl⟩⟩
  rw [List.mem_filter, Bool.and_eq_true, decide_eq_true_eq, List.mem_range]
  exact ⟨h3, h2, h4⟩

def swapsB (m : ModT) : List (List Int) := bif modB m then swapsF m m.1.length else []
theorem swapsB_small (m : ModT) : (swapsB m).length ≤ 25 ∧ ∀ x ∈ swapsB m, x.length = 2 := by
 unfold swapsB
 cases hm : modB m with
 | false => rw [cff]; exact ⟨Nat.zero_le _, fun x hx => by cases hx⟩
 | true =>
  have hn := modB_len hm
  rw [ctt]
  refine ⟨Nat.le_trans (swapsF_len m _) (Nat.mul_le_mul hn.2.1 hn.2.1), fun x hx => ?_⟩
  obtain ⟨i, k, _, _, _, _, rfl⟩ := mem_swapsF.1 hx
  rfl

end Go.AE.Y
namespace Go.AE.Y
open Go Go.AE

end Go.AE.Y
namespace Go.AE.Y
open Go Go.AE

end Go.AE.Y
namespace Go.AE.Y
open Go Go.AE

end Go.AE.Y
namespace Go.AE.Y
open Go Go.AE

end Go.AE.Y
namespace Go.AE.Y
open Go Go.AE

def brkR (x : List Int) : RuleT := (1, x, [-1, 1], 0, [])
def brkM (m : ModT) : ModT := (m.1, m.2 ++ (swapsB m).map brkR)
def breakB (m : ModT) : Bool × List Int × List RuleT := bif modB m && decide (m.2.length + (swapsB m).length ≤ 8) then (true, brkM m) else (false, [], [])

theorem swapsB_at {m : ModT} (hm : modB m = true) {x : List Int} (h : x ∈ swapsB m) : ∃ i k : Nat, i < k ∧ k < m.1.length ∧ symB m (swapP m.1.length i k) = true ∧ x = [(i : Int), (k : Int)] := by
 unfold swapsB at h
 rw [hm, ctt] at h
 obtain ⟨i, k, _, h1, h2, h3, h4⟩ := mem_swapsF.1 h
 exact ⟨i, k, h1, h2, h3, h4⟩

theorem brk_ok {m : ModT} (hm : modB m = true) {x : List Int} (h : x ∈ swapsB m) : RuleOk m.1.length (brkR x) := by
 obtain ⟨i, k, h1, h2, _, rfl⟩ := swapsB_at hm h
 refine ⟨freshB_ofd (fun j hj => ?_) (fun a b ha hb e => ?_), by show 1 ≤ 2; omega, rfl, rfl⟩
 ·have hj : j < 2 := hj
  rcases Nat.lt_or_ge j 1 with q | q
  ·rw [show j = 0 by omega]
   show 0 ≤ (i : Int) ∧ (i : Int) ≤ m.1.length - 1
   omega
  ·rw [show j = 1 by omega]
   show 0 ≤ (k : Int) ∧ (k : Int) ≤ m.1.length - 1
   omega
 ·have ha : a < 2 := ha
  have hb : b < 2 := hb
  rcases Nat.lt_or_ge a 1 with q | q <;> rcases Nat.lt_or_ge b 1 with q' | q'
  ·omega
  ·rw [show a = 0 by omega, show b = 1 by omega] at e
   have e : (i : Int) = k := e
   omega
  ·rw [show a = 1 by omega, show b = 0 by omega] at e
   have e : (k : Int) = i := e
   omega
  ·omega

theorem brk_mod {m : ModT} (hm : modB m = true) : modB (brkM m) = decide (m.2.length + (swapsB m).length ≤ 8) := by
 have hall : (brkM m).2.all (ruleB m.1.length) = true := by
  rw [List.all_eq_true]
  intro r hr
  rcases List.mem_append.1 hr with q | q
  ·exact modB_rule1 hm q
  ·obtain ⟨x, hx, rfl⟩ := List.mem_map.1 q
   exact ruleB_c.2 (brk_ok hm hx)
 have hlen : (brkM m).2.length = m.2.length + (swapsB m).length := by
  show (m.2 ++ (swapsB m).map brkR).length = _
  rw [List.length_append, List.length_map]
 unfold modB at hm ⊢
 simp only [Bool.and_eq_true, decide_eq_true_eq] at hm
 show ((decide (1 ≤ m.1.length) && decide (m.1.length ≤ 5)) && (decide ((brkM m).2.length ≤ 8) && (m.1.all cellB && (decide (sumZ m.1 ≤ 12) && (brkM m).2.all (ruleB m.1.length))))) = _
 rw [hall, hlen, decide_eq_true hm.1.1, decide_eq_true hm.1.2, hm.2.2.1, decide_eq_true hm.2.2.2.1]
 simp

theorem ownRows_eq (a : List (List Int)) (h : a.length ≤ 1048576) (hx : ∀ x ∈ a, x.length ≤ 1048576) : spec_l17OwnListListint a = some a := by
 unfold spec_l17OwnListListint
 refine (loop_push (f := spec_l17OwnListListint_l1 a) a [] [] id (fun i out hi ho => ?_) ?_).trans (by simp)
 ·have hy := hx _ (getD_memG (l := a) (n := i) (d := []) hi)
  unfold spec_l17OwnListListint_l1
  dsimp only
  rw [cdec_pos (by omega), rq_pos ⟨by omega, by omega⟩, Int.toNat_natCast, rq_pos (by simp only [bound, List.length_nil]; omega), rq_pos (by simp only [bound, List.length_cons, List.length_nil]; simp at ho; omega), rq_i64 (by omega) (by omega), List.nil_append]
 ·unfold spec_l17OwnListListint_l1
  dsimp only
  rw [cdec_neg (by omega)]
  rfl
theorem ownRule_eq (r : RuleT) (h : smallR r) : spec_l17OwnRule r = some (r.1, r.2.2.2.1, r.2.1, r.2.2.1, r.2.2.2.2) := by
 obtain ⟨h1, h2, h3, h4⟩ := h
 unfold spec_l17OwnRule
 rw [rq_pos (by simp only [bound, List.length_nil]; omega), rq_pos (by simp only [bound, List.length_nil]; omega), ownRows_eq _ h3 h4, bind_s, List.nil_append, List.nil_append]
theorem ownRules_eq (a : List RuleT) (h : a.length ≤ 1048576) (hx : ∀ r ∈ a, smallR r) : spec_l17OwnListRule a = some a := by
 unfold spec_l17OwnListRule
 refine (loop_push (f := spec_l17OwnListRule_l1 a) a (0, [], [], 0, []) [] id (fun i out hi ho => ?_) ?_).trans (by simp)
 ·have hy := hx _ (getD_memG (l := a) (n := i) (d := (0, [], [], 0, [])) hi)
  unfold spec_l17OwnListRule_l1
  dsimp only
  rw [cdec_pos (by omega), rq_pos ⟨by omega, by omega⟩, Int.toNat_natCast, ownRule_eq _ hy, bind_s, rq_pos (by simp only [bound, List.length_cons, List.length_nil]; simp at ho; omega), rq_i64 (by omega) (by omega)]
 ·unfold spec_l17OwnListRule_l1
  dsimp only
  rw [cdec_neg (by omega)]
  rfl
theorem ownModel_eq (m : ModT) (h : smallM m) : spec_l17OwnModel m = some m := by
 obtain ⟨h1, h2, h3⟩ := h
 unfold spec_l17OwnModel
 rw [rq_pos (by simp only [bound, List.length_nil]; omega), ownRules_eq _ h2 h3, bind_s, List.nil_append]

theorem brk_small {m : ModT} (h : smallM m) (hm : modB m = true) : smallM (brkM m) := by
 have hl := modB_len hm
 obtain ⟨q1, q2⟩ := swapsB_small m
 refine ⟨h.1, ?_, fun r hr => ?_⟩
 ·show (m.2 ++ (swapsB m).map brkR).length ≤ _
  rw [List.length_append, List.length_map]
  omega
 ·rcases List.mem_append.1 hr with q | q
  ·exact h.2.2 r q
  ·obtain ⟨x, hx, rfl⟩ := List.mem_map.1 q
   refine ⟨?_, by show 2 ≤ _; omega, by show 0 ≤ _; omega, fun y hy => by cases hy⟩
   show x.length ≤ _
   rw [q2 x hx]
   omega

theorem spec_BreakSwaps_eq {m : ModT} (h : smallM m) : spec_BreakSwaps m = some (breakB m) := by
 unfold spec_BreakSwaps breakB
 rw [ownModel_eq m h, bind_s, spec_ModelValid_eq m h, bind_s]
 cases hm : modB m with
 | false => rw [Bool.not_false, ctt, Bool.false_and, cff]
 | true =>
  have hl := modB_len hm
  obtain ⟨q1, q2⟩ := swapsB_small m
  have es : spec_FindSwaps m = some (swapsB m) := spec_FindSwaps_eq h
  rw [Bool.not_true, cff, Bool.true_and, spec_l6Copy_eq m h, bind_s, es, bind_s]
  refine (loop_push_map (f := spec_BreakSwaps_l1 m (swapsB m)) (swapsB m) [] brkR m.2 (fun _ => bif decide (m.2.length + (swapsB m).length ≤ 8) then (true, brkM m) else (false, [], [])) (fun i out hi ho => ?_) ?_)
  ·have hx2 := q2 _ (getD_memG (d := []) hi)
   obtain ⟨i', k', _, _, _, hx⟩ := swapsB_at hm (getD_memG (d := []) hi)
   unfold spec_BreakSwaps_l1
   dsimp only
   rw [cdec_pos (by omega), rq_pos ⟨by omega, by omega⟩, Int.toNat_natCast, hx, rq_pos ⟨by decide, by simp⟩, rq_pos ⟨by omega, by omega⟩, rq_pos ⟨by decide, by simp⟩, rq_pos (by simp only [bound, List.length_cons, List.length_nil]; omega), rq_i64 (by omega) (by omega)]
   rfl
  ·unfold spec_BreakSwaps_l1
   dsimp only
   rw [cdec_neg (by omega)]
   unfold spec_BreakSwaps_j1
   rw [show spec_ModelValid (m.1, m.2 ++ (swapsB m).map brkR) = some (modB (brkM m)) from spec_ModelValid_eq (brkM m) (brk_small h hm), bind_s, brk_mod hm]
   cases decide (m.2.length + (swapsB m).length ≤ 8) with
   | true => rw [Bool.not_true, cff, ctt]; rfl
   | false => rw [Bool.not_false, ctt, cff]; rfl

end Go.AE.Y
namespace Go.AE.Y
open Go Go.AE

theorem impl_BreakSwaps_eqk {m : ModT} (h : smallM m) : impl_BreakSwaps m = some (breakB m) := by
 unfold impl_BreakSwaps breakB
 rw [impl_ModelValid_eq m h, bind_s]
 cases hm : modB m with
 | false => rw [Bool.not_false, ctt, Bool.false_and, cff]
 | true =>
  have hl := modB_len hm
  obtain ⟨q1, q2⟩ := swapsB_small m
  have ei : impl_FindSwaps m = some (swapsB m) := impl_FindSwaps_eq h
  rw [Bool.not_true, cff, Bool.true_and, impl_Model_own_eq m h, bind_s, ei, bind_s]
  refine loop_fn (f := impl_BreakSwaps_l1 m (swapsB m)) (fun s : Int × Int × List RuleT => ∃ i : Nat, s.1 = i ∧ s.2.1 = i ∧ i ≤ (swapsB m).length ∧ s.2.2 = m.2 ++ ((swapsB m).take i).map brkR) (fun s => (swapsB m).length - s.1.toNat) (fun _ => bif decide (m.2.length + (swapsB m).length ≤ 8) then (true, brkM m) else (false, [], [])) ?_ _ ⟨0, rfl, rfl, Nat.zero_le _, by simp⟩
  rintro ⟨s, k, a⟩ ⟨i, rfl, rfl, hi, rfl⟩
  dsimp only
  unfold impl_BreakSwaps_l1
  dsimp only
  have hal : (m.2 ++ ((swapsB m).take i).map brkR).length = m.2.length + i := by rw [List.length_append, List.length_map, List.length_take]; omega
  rcases Nat.lt_or_ge i (swapsB m).length with h5 | h5
  ·left
   rw [cdec_pos (by omega), rq_pos ⟨by omega, by omega⟩, rq_pos rfl, Int.toNat_natCast, rq_pos (by simp only [bound, hal, List.length_cons, List.length_nil]; omega), rq_i64 (by omega) (by omega)]
   refine ⟨_, rfl, ⟨i + 1, by simp, by simp, by omega, ?_⟩, by (try dsimp only) <;> omega, rfl⟩
   rw [List.take_succ_eq_append_getElem h5, List.map_append, ← List.append_assoc, List.getD_eq_getElem?_getD, List.getElem?_eq_getElem h5]
   rfl
  ·right
   have : i = (swapsB m).length := by omega
   subst this
   rw [cdec_neg (by omega)]
   unfold impl_BreakSwaps_j1
   rw [List.take_length]
   have hlen : (m.2 ++ (swapsB m).map brkR).length = m.2.length + (swapsB m).length := by rw [List.length_append, List.length_map]
   by_cases h8 : m.2.length + (swapsB m).length ≤ 8
   ·rw [cdec_neg (by omega), decide_eq_true h8, ctt]
    rfl
   ·rw [cdec_pos (by omega), decide_eq_false h8, cff]
    rfl

theorem breakB_small {m : ModT} (h : smallM m) : smallM (breakB m).2 := by
 unfold breakB
 cases hm : modB m with
 | false => rw [Bool.false_and, cff]; exact ⟨Nat.zero_le _, Nat.zero_le _, fun r hr => by cases hr⟩
 | true =>
  rw [Bool.true_and]
  cases decide (m.2.length + (swapsB m).length ≤ 8) with
  | true => rw [ctt]; exact brk_small h hm
  | false => rw [cff]; exact ⟨Nat.zero_le _, Nat.zero_le _, fun r hr => by cases hr⟩

theorem law_FnExactBreakSwaps (m : ModT) (h : okD tyModel m) : laws_FnExactBreakSwaps m = some true := by
 unfold laws_FnExactBreakSwaps
 obtain ⟨r, hr, hr2⟩ := szModel_ex m h
 rw [hr, bind_s]
 by_cases h1 : r < 0
 ·rw [cdec_pos h1]
 rw [cdec_neg h1]
 have hs : smallM m := hr2.resolve_left h1
 have hb := breakB_small hs
 obtain ⟨k1, e1, p1, p1', _⟩ := markModel_ex m hs
 obtain ⟨m2, q4, q5, q6⟩ := markHeldModel (breakB m).2 hb
 unfold laws_FnExactBreakSwaps_j1
 simp (disch := first | omega | assumption) only [toModel_eq, bind_s, spec_BreakSwaps_eq, impl_BreakSwaps_eqk, bne_self_eq_false, cff, eqModel_self, cnt, e1, q4, q6, cdec_neg]

end Go.AE.Y
