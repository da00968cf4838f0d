/-
  Plain laws of the models, in one text. No conditions.
-/
import Derived.Test.YtgpinbepiniogaaGreatDoorPx1
import Derived.Test.YtgpinbepiniogaaGreatDoorRAM
namespace Go.AE.Y
open Go Go.AE

theorem dec_len (u : Nat) : (Go.Lib.decDigits u).length ≤ u + 1 := by
 induction u using Nat.strongRecOn with
 | ind u ih =>
  by_cases h : u < 10
  ·rw [Go.Lib.decDigits_one h]
   simp
  ·rw [dec_at h, List.length_append, List.length_singleton]
   have := ih (u / 10) (by omega)
   omega
theorem itoa_len (n : Int) : (Go.Lib.itoa n).length ≤ n.natAbs + 2 := by
 unfold Go.Lib.itoa
 split
 ·have := dec_len n.natAbs
  rw [List.length_cons]
  omega
 ·have := dec_len n.toNat
  omega

theorem digF_snoc (l : List Int) (x : Int) : digF (l ++ [x]) = digF l ++ Go.Lib.itoa x := by
 unfold digF
 rw [List.flatMap_append]
 simp
theorem digF_len {l : List Int} (h : ∀ x ∈ l, 0 ≤ x ∧ x < 10) : (digF l).length = l.length := by
 induction l with
 | nil => rfl
 | cons x l ih =>
  unfold digF at ih ⊢
  rw [List.flatMap_cons, List.length_append, itoa_one (h x List.mem_cons_self), ih (fun y hy => h y (List.mem_cons_of_mem _ hy))]
  simp only [List.length_cons, List.length_nil]
  omega

theorem digits_eq {l : List Int} (h : ∀ x ∈ l, 0 ≤ x ∧ x < 10) (hl : l.length ≤ 1048576) : impl_digits l = some (digF l) := by
 unfold impl_digits
 refine loop_fn (f := impl_digits_l1 l) (fun s : List UInt8 × Int => ∃ i : Nat, s.2 = i ∧ i ≤ l.length ∧ s.1 = digF (l.take i)) (fun s => l.length - s.2.toNat) (fun _ => digF l) ?_ _ ⟨0, rfl, Nat.zero_le _, rfl⟩
 rintro ⟨out, s⟩ ⟨i, hi, hle, ho⟩
 dsimp only at hi ho ⊢
 subst hi ho
 unfold impl_digits_l1
 dsimp only
 rcases Nat.lt_or_ge i l.length with h1 | h1
 ·left
  have hx := h _ (getD_memG (d := 0) h1)
  have hn : (digF (l.take i)).length ≤ i := by
   rw [digF_len (fun x q => h x (List.mem_of_mem_take q)), List.length_take]; omega
  rw [cdec_pos (by omega), rq_pos ⟨by omega, by omega⟩, Int.toNat_natCast]
  unfold itoaO
  rw [bind_s, rq_pos (by rw [itoa_one hx]; simp only [List.length_singleton, bound]; omega), rq_i64 (by omega) (by omega)]
  exact ⟨_, rfl, ⟨i + 1, by simp, by omega, by (try dsimp only); rw [take_snocG (l := l) (n := i) 0 h1, digF_snoc]⟩, by (try dsimp only) <;> omega, rfl⟩
 ·right
  have : i = l.length := by omega
  subst this
  rw [cdec_neg (by omega), List.take_length]

theorem joinW_append (a b : List (List UInt8)) : joinW (a ++ b) = joinW a ++ joinW b := by
 unfold joinW
 rw [List.flatMap_append]
theorem joinW_one (w : List UInt8) : joinW [w] = 32 :: w := by
 unfold joinW
 simp

theorem termW_snoc : ∀ {v c : List Int} {x y : Int}, v.length = c.length → termW (v ++ [x]) (c ++ [y]) = termW v c ++ [Go.Lib.itoa y, Go.Lib.itoa x]
 | [], [], _, _, _ => rfl
 | a :: v, b :: c, x, y, h => by
  show Go.Lib.itoa b :: Go.Lib.itoa a :: termW (v ++ [x]) (c ++ [y]) = _
  rw [termW_snoc (by simpa using h)]
  rfl
 | [], _ :: _, _, _, h => by cases h
 | _ :: _, [], _, _, h => by cases h

theorem word_at {k : Int} (h : k = 1 ∨ k = 2 ∨ k = 3 ∨ k = 4) : ([([] : List UInt8), [108, 105, 110, 101, 97, 114], [100, 105, 102, 102, 101, 114, 101, 110, 116], [116, 97, 98, 108, 101], [108, 101, 115, 115]] : List (List UInt8)).getD k.toNat [] = wordOf k := by
 rcases h with h | h | h | h <;> subst h <;> rfl
theorem word_len (k : Int) : (wordOf k).length ≤ 9 := by
 unfold wordOf
 cases k == 1 <;> cases k == 2 <;> cases k == 3 <;> cases k == 4 <;> decide

theorem kind_four {r : RuleT} (h : kindB r = true) : r.1 = 1 ∨ r.1 = 2 ∨ r.1 = 3 ∨ r.1 = 4 := by
 rcases kind_cases h with ⟨q, _⟩ | ⟨q, _⟩ | ⟨q, _⟩ | q
 ·exact .inl q
 ·exact .inr (.inr (.inl q))
 ·exact .inr (.inr (.inr q))
 ·exact .inr (.inl q)

theorem lin_bound {r : RuleT} (h : kindB r = true) (h1 : r.1 = 1) : -1000 ≤ r.2.2.2.1 ∧ r.2.2.2.1 ≤ 1000 := by
 rcases kind_cases h with ⟨_, q⟩ | ⟨q, _⟩ | ⟨q, _⟩ | q
 ·unfold linB at q
  simp only [Bool.and_eq_true, decide_eq_true_eq] at q
  exact q.2.1
 ·omega
 ·omega
 ·omega

theorem rows_few {n : Int} {r : RuleT} (h : RuleOk n r) : r.2.2.2.2.length ≤ 8 := by
 by_cases h3 : r.1 = 3
 ·rcases kind_cases h.kind with ⟨q, _⟩ | ⟨_, q⟩ | ⟨q, _⟩ | q
  ·omega
  ·exact (tabB_rows q).1
  ·omega
  ·omega
 ·have hs := h.spare
  unfold spareB at hs
  rw [Bool.and_eq_true, beq_eq_false_iff_ne.2 h3, Bool.false_or, decide_eq_true_eq] at hs
  omega

theorem text_eq {n : Int} {r : RuleT} (hn : n ≤ 5) (hs : smallR r) (h : RuleOk n r) : impl_Rule_text r = some (textF r) := by
 have hk := kind_four h.kind
 have hsl := hs.1
 have hw := word_len r.1
 have hvd := fresh_dig hn h.fresh
 unfold impl_Rule_text impl_ruleWords
 rw [bind_s, rq_pos ⟨by omega, by simp only [List.length_cons, List.length_nil]; omega⟩]
 have hwd := word_at hk
 have hwd' : ([([] : List UInt8), ([108, 105, 110, 101, 97, 114] : List UInt8), ([100, 105, 102, 102, 101, 114, 101, 110, 116] : List UInt8), ([116, 97, 98, 108, 101] : List UInt8), ([108, 101, 115, 115] : List UInt8)] : List (List UInt8)).getD r.1.toNat [] = wordOf r.1 := hwd
 rw [hwd']
 unfold impl_Rule_text_j1 textF wordsOf
 by_cases h1 : r.1 = 1
 ·rw [cbeq_pos h1, beq_iff_eq.2 h1, ctt]
  obtain ⟨l1, l2⟩ := lin_at h.kind h1
  have hb := lin_bound h.kind h1
  refine loop_fn (f := impl_Rule_text_l1 r) (fun s : List UInt8 × Int => ∃ i : Nat, s.2 = i ∧ i ≤ r.2.1.length ∧ s.1 = wordOf r.1 ++ joinW (termW (r.2.1.take i) (r.2.2.1.take i)) ∧ s.1.length ≤ 9 + 40 * i) (fun s => r.2.1.length - s.2.toNat) (fun _ => wordOf r.1 ++ joinW (termW r.2.1 r.2.2.1 ++ [[62, 61], Go.Lib.itoa r.2.2.2.1])) ?_ _ ⟨0, rfl, Nat.zero_le _, by show _ = wordOf r.1 ++ joinW (termW [] []); rw [show joinW (termW [] []) = [] from rfl, List.append_nil], by omega⟩
  rintro ⟨out, s⟩ ⟨i, hi, hle, ho, hol⟩
  dsimp only at hi ho hol ⊢
  subst hi
  unfold impl_Rule_text_l1
  dsimp only
  rcases Nat.lt_or_ge i r.2.1.length with h5 | h5
  ·left
   have hx := hvd _ (getD_memG (d := 0) h5)
   have hy := l2 i
   have i1 := itoa_len (r.2.2.1.getD i 0)
   have i2 := itoa_one hx
   unfold itoaO
   rw [cdec_pos (by omega), rq_pos ⟨by omega, by omega⟩, rq_pos ⟨by omega, by omega⟩, bind_s, Int.toNat_natCast, rq_pos (by simp only [List.length_cons, List.length_nil, bound]; omega), rq_pos (by simp only [List.length_append, List.length_cons, List.length_nil, bound]; omega), bind_s]
   rw [i2, rq_pos (by simp only [List.length_append, List.length_cons, List.length_nil, bound]; omega), rq_pos (by simp only [List.length_append, List.length_cons, List.length_nil, bound]; omega), rq_i64 (by omega) (by omega)]
   refine ⟨_, rfl, ⟨i + 1, by simp, by omega, ?_, by (try dsimp only); simp only [List.length_append, List.length_cons, List.length_nil]; omega⟩, by (try dsimp only) <;> omega, rfl⟩
   dsimp only
   rw [ho, take_snocG (l := r.2.1) (n := i) 0 h5, take_snocG (l := r.2.2.1) (n := i) 0 (by omega), termW_snoc (by rw [List.length_take, List.length_take, l1]), joinW_append, i2]
   show _ ++ _ = _ ++ (_ ++ joinW [Go.Lib.itoa (r.2.2.1.getD i 0), [UInt8.ofNat (48 + (r.2.1.getD i 0).toNat)]])
   unfold joinW
   simp
  ·right
   have : i = r.2.1.length := by omega
   subst this
   have i1 := itoa_len r.2.2.2.1
   unfold itoaO
   rw [cdec_neg (by omega), rq_pos (by simp only [List.length_cons, List.length_nil, bound]; omega), bind_s, rq_pos (by simp only [List.length_append, List.length_cons, List.length_nil, bound]; omega)]
   rw [ho, List.take_length, List.take_of_length_le (by omega), joinW_append]
   have e : joinW [[62, 61], Go.Lib.itoa r.2.2.2.1] = [32, 62, 61, 32] ++ Go.Lib.itoa r.2.2.2.1 := by unfold joinW; simp
   rw [e]
   simp only [List.append_assoc]
 ·rw [cbeq_neg h1, beq_eq_false_iff_ne.2 h1, cff, digits_eq hvd hsl, bind_s]
  have hdl := digF_len hvd
  have hR := h.rows
  have hrl := hs.2.2.1
  rw [rq_pos (by simp only [List.length_cons, List.length_nil, bound]; omega), rq_pos (by simp only [List.length_append, List.length_cons, List.length_nil, bound]; omega)]
  refine loop_fn (f := impl_Rule_text_l2 r) (fun s : List UInt8 × Int => ∃ i : Nat, s.2 = i ∧ i ≤ r.2.2.2.2.length ∧ s.1 = wordOf r.1 ++ joinW (digF r.2.1 :: (r.2.2.2.2.take i).map digF) ∧ s.1.length ≤ 10 + r.2.1.length + i * (1 + r.2.1.length)) (fun s => r.2.2.2.2.length - s.2.toNat) (fun _ => wordOf r.1 ++ joinW (digF r.2.1 :: r.2.2.2.2.map digF)) ?_ _ ⟨0, rfl, Nat.zero_le _, by show _ = wordOf r.1 ++ joinW [digF r.2.1]; rw [joinW_one]; rfl, by (try dsimp only); simp only [List.length_append, List.length_cons, List.length_nil]; omega⟩
  rintro ⟨out, s⟩ ⟨i, hi, hle, ho, hol⟩
  dsimp only at hi ho hol ⊢
  subst hi
  unfold impl_Rule_text_l2
  dsimp only
  have hr8 := rows_few h
  rcases Nat.lt_or_ge i r.2.2.2.2.length with h5 | h5
  ·left
   have hx := hR _ (getD_memG (d := []) h5)
   have hxd := dig_dig hx.2
   have hxl := digF_len hxd
   have hm : i * (1 + r.2.1.length) ≤ 8 * 1048577 := Nat.mul_le_mul (by omega) (by omega)
   have hm2 : (i + 1) * (1 + r.2.1.length) = i * (1 + r.2.1.length) + (1 + r.2.1.length) := Nat.succ_mul _ _
   rw [cdec_pos (by omega), rq_pos ⟨by omega, by omega⟩, Int.toNat_natCast, digits_eq hxd (by omega), bind_s, rq_pos (by simp only [List.length_cons, List.length_nil, bound]; omega), rq_pos (by simp only [List.length_append, List.length_cons, List.length_nil, bound]; omega), rq_i64 (by omega) (by omega)]
   refine ⟨_, rfl, ⟨i + 1, by simp, by omega, ?_, by (try dsimp only); simp only [List.length_append, List.length_cons, List.length_nil]; omega⟩, by (try dsimp only) <;> omega, rfl⟩
   dsimp only
   rw [ho, take_snocG (l := r.2.2.2.2) (n := i) [] h5, List.map_append, ← List.cons_append, joinW_append]
   show _ ++ _ = _ ++ (_ ++ joinW [digF (r.2.2.2.2.getD i [])])
   rw [joinW_one, List.append_assoc]
   rfl
  ·right
   have : i = r.2.2.2.2.length := by omega
   subst this
   rw [cdec_neg (by omega), ho, List.take_length]
end Go.AE.Y
namespace Go.AE.Y
open Go Go.AE

theorem CompactText_eq (s : List (List UInt8)) (hn : s.length ≤ 4000000000) : slices_Compact_string s = some (onceF [] s s.length) := by
 have h1 : ∀ n, 1 ≤ n → n ≤ s.length → (∀ k, 1 ≤ k → k < n → s.getD k [] ≠ s.getD (k - 1) []) → onceF [] s n = s.take n := by
  intro n
  induction n with
  | zero => intro h; omega
  | succ n ih =>
   intro _ h2 h3
   rw [take_snocG (l := s) (n := n) [] (by omega)]
   unfold onceF
   rcases Nat.lt_or_ge 0 n with h4 | h4
   ·rw [if_neg (fun h => h3 n h4 (by omega) h.2), ih h4 (by omega) (fun k k1 k2 => h3 k k1 (by omega))]
   ·have : n = 0 := by omega
    subst this
    rw [if_neg (fun h => absurd h.1 (by omega))]
    rfl
 unfold slices_Compact_string
 rcases Nat.lt_or_ge s.length 2 with h2 | h2
 ·rw [cdec_pos (by omega)]
  rcases Nat.lt_or_ge 0 s.length with h3 | h3
  ·rw [h1 s.length h3 (Nat.le_refl _) (fun k k1 k2 => by omega), List.take_length]
  ·have : s = [] := List.eq_nil_of_length_eq_zero (by omega)
   subst this
   rfl
 rw [cdec_neg (by omega)]
 refine loop_fn (f := slices_Compact_string_l1 s) (fun t : Int => ∃ n : Nat, t = n ∧ 1 ≤ n ∧ n ≤ s.length ∧ ∀ k, 1 ≤ k → k < n → s.getD k [] ≠ s.getD (k - 1) []) (fun t => s.length - t.toNat) (fun _ => onceF [] s s.length) ?_ _ ⟨1, rfl, by omega, by omega, fun k k1 k2 => by omega⟩
 rintro t ⟨n, rfl, n1, n2, n3⟩
 unfold slices_Compact_string_l1
 rcases Nat.lt_or_ge n s.length with h3 | h3
 ·rw [cdec_pos (by omega), rq_pos ⟨by omega, by omega⟩, rq_i64 (by omega) (by omega), rq_pos ⟨by omega, by omega⟩, Int.toNat_natCast, show ((n : Int) - 1).toNat = n - 1 by omega]
  by_cases q : s.getD n [] = s.getD (n - 1) []
  ·right
   rw [beq_iff_eq.2 q, ctt, rq_pos ⟨by omega, by omega⟩]
   have e0 : onceF [] s (n + 1) = s.take n := by
    unfold onceF
    rw [if_pos ⟨n1, q⟩, h1 n n1 n2 n3]
   refine loop_fn (f := slices_Compact_string_l2 n) (fun t : Int × Int × List (List UInt8) => ∃ b : Nat, t.2.1 = b ∧ 1 ≤ b ∧ n + b ≤ s.length ∧ t.1 = (onceF [] s (n + b)).length ∧ (onceF [] s (n + b)).length + 1 ≤ n + b ∧ t.2.2.length = s.length ∧ t.2.2.take (onceF [] s (n + b)).length = onceF [] s (n + b) ∧ ∀ j, n + b ≤ j + 1 → t.2.2.getD j [] = s.getD j []) (fun t => s.length - t.2.1.toNat) (fun _ => .inr (onceF [] s s.length)) ?_ _ ⟨1, rfl, Nat.le_refl _, by omega, ?_, ?_, rfl, ?_, fun _ _ => rfl⟩
   ·rintro ⟨k1, k2, a⟩ ⟨b, hb, b1, b2, b3, b4, b5, b6, b7⟩
    dsimp only at hb b3 b5 b6 b7 ⊢
    subst hb
    subst b3
    unfold slices_Compact_string_l2
    dsimp only
    rcases Nat.lt_or_ge (n + b) s.length with h4 | h4
    ·left
     have e1 : ((n : Int) + (b : Int)).toNat = n + b := by omega
     have e2 : ((n : Int) + ((b : Int) - 1)).toNat = n + b - 1 := by omega
     rw [cdec_pos (by omega), rq_pos ⟨by omega, by omega⟩, rq_i64 (by omega) (by omega), rq_pos ⟨by omega, by omega⟩, e1, e2, b7 (n + b) (by omega), b7 (n + b - 1) (by omega)]
     by_cases q2 : s.getD (n + b) [] = s.getD (n + b - 1) []
     ·have e3 : onceF [] s (n + (b + 1)) = onceF [] s (n + b) := by
       show onceF [] s (n + b + 1) = _
       conv => lhs; unfold onceF
       rw [if_pos ⟨by omega, q2⟩]
      rw [show (s.getD (n + b) [] != s.getD (n + b - 1) []) = false by rw [q2]; exact bne_self_eq_false _, cff, rq_i64 (by omega) (by omega)]
      refine ⟨_, rfl, ⟨b + 1, by simp, by omega, by omega, ?_, ?_, b5, ?_, fun j hj => b7 j (by omega)⟩, by (try dsimp only) <;> omega, rfl⟩
      ·rw [e3]
      ·rw [e3]; omega
      ·rw [e3]; exact b6
     ·have e3 : onceF [] s (n + (b + 1)) = onceF [] s (n + b) ++ [s.getD (n + b) []] := by
       show onceF [] s (n + b + 1) = _
       conv => lhs; unfold onceF
       rw [if_neg (fun h => q2 h.2)]
      have e4 : (onceF [] s (n + (b + 1))).length = (onceF [] s (n + b)).length + 1 := by rw [e3, List.length_append, List.length_singleton]
      rw [show (s.getD (n + b) [] != s.getD (n + b - 1) []) = true by rw [bne_iff_ne]; exact q2, ctt, rq_pos ⟨by omega, by omega⟩, rq_pos ⟨by omega, by omega⟩, rq_i64 (by omega) (by omega), rq_i64 (by omega) (by omega), Int.toNat_natCast]
      refine ⟨_, rfl, ⟨b + 1, by simp, by omega, by omega, ?_, ?_, ?_, ?_, fun j hj => ?_⟩, by (try dsimp only) <;> omega, rfl⟩
      ·rw [e4]; simp
      ·rw [e4]; omega
      ·dsimp only; rw [List.length_set]; exact b5
      ·dsimp only
       rw [e4, List.take_add_one, List.take_set_of_le (Nat.le_refl _), b6, List.getElem?_set_self (by omega), e3]
       rfl
      ·dsimp only
       rw [List.getD_eq_getElem?_getD, List.getElem?_set_ne (by omega), ← List.getD_eq_getElem?_getD]
       exact b7 j (by omega)
    ·right
     have e : n + b = s.length := by omega
     unfold slices_Compact_string_j1
     dsimp only
     rw [e] at b4 b6 ⊢
     have hl : (a.take (onceF [] s s.length).length ++ List.replicate (a.length - (onceF [] s s.length).length) ([] : List UInt8)).length = s.length := by rw [List.length_append, List.length_take, List.length_replicate]; omega
     rw [cdec_neg (by omega), rq_pos ⟨by omega, by omega⟩, Int.toNat_natCast, hl, rq_pos ⟨by omega, by omega⟩, b6, List.take_left' rfl]
     rfl
   ·dsimp only
    rw [e0, List.length_take]; omega
   ·rw [e0, List.length_take]; omega
   ·dsimp only
    rw [e0, List.length_take, Nat.min_eq_left n2]
  ·left
   rw [beq_eq_false_iff_ne.2 q, cff, rq_i64 (by omega) (by omega)]
   refine ⟨_, rfl, ⟨n + 1, by simp, by omega, by omega, fun k k1 k2 => ?_⟩, by omega, rfl⟩
   rcases Nat.lt_or_ge k n with h | h
   ·exact n3 k k1 h
   ·rw [show k = n by omega]; exact q
 ·right
  have : n = s.length := by omega
  rw [cdec_neg (by omega), h1 s.length (by omega) (Nat.le_refl _) (by rw [← this]; exact n3), List.take_length]

theorem EqualText_eq (a b : List (List UInt8)) (ha : a.length ≤ 1048576) : slices_Equal_string a b = some (a == b) := by
 unfold slices_Equal_string
 by_cases hl : a.length = b.length
 ·rw [cbne_neg (by omega)]
  refine loop_fn (f := slices_Equal_string_l1 a b) (fun s : Int => ∃ i : Nat, s = i ∧ i ≤ a.length ∧ ∀ j, j < i → a.getD j [] = b.getD j []) (fun s => a.length - s.toNat) (fun _ => a == b) ?_ _ ⟨0, rfl, Nat.zero_le _, fun j hj => by omega⟩
  rintro s ⟨i, rfl, hi, he⟩
  unfold slices_Equal_string_l1
  rcases Nat.lt_or_ge i a.length with h1 | h1
  ·rw [cdec_pos (by omega), rq_pos ⟨by omega, by omega⟩, rq_pos ⟨by omega, by omega⟩, Int.toNat_natCast]
   by_cases q : a.getD i [] = b.getD i []
   ·left
    rw [show (a.getD i [] != b.getD i []) = false by rw [q]; exact bne_self_eq_false _, cff, rq_i64 (by omega) (by omega)]
    refine ⟨_, rfl, ⟨i + 1, by simp, by omega, fun j hj => ?_⟩, by omega, rfl⟩
    rcases Nat.lt_or_ge j i with h | h
    ·exact he j h
    ·rw [show j = i by omega]; exact q
   ·right
    rw [show (a.getD i [] != b.getD i []) = true by rw [bne_iff_ne]; exact q, ctt]
    have : (a == b) = false := by
     rw [beq_eq_false_iff_ne]
     intro e
     exact q (by rw [e])
    rw [this]
  ·right
   have : i = a.length := by omega
   subst this
   rw [cdec_neg (by omega)]
   have e : a = b := by
    refine List.ext_getElem hl (fun j j1 j2 => ?_)
    have := he j j1
    rw [List.getD_eq_getElem?_getD, List.getElem?_eq_getElem j1, List.getD_eq_getElem?_getD, List.getElem?_eq_getElem j2] at this
    exact this
   rw [beq_iff_eq.2 e]
 ·rw [cbne_pos (by omega)]
  have : (a == b) = false := by
   rw [beq_eq_false_iff_ne]
   intro e
   exact hl (by rw [e])
  rw [this]

theorem standard_eq {m : ModT} (h : smallM m) (hm : modB m = true) : impl_Model_standard m = some (stdS (m.2.map (fun r => textF (canB r)))) := by
 have hl := modB_len hm
 have hj : impl_Model_standard_j1 (m.2.map (fun r => textF (canB r))) = some (stdS (m.2.map (fun r => textF (canB r)))) := by
  have hms : ((m.2.map (fun r => textF (canB r))).mergeSort fun x y => decide (x ≤ y)).length = (m.2.map (fun r => textF (canB r))).length := List.length_mergeSort _
  have hml : (m.2.map (fun r => textF (canB r))).length ≤ 8 := by rw [List.length_map]; omega
  unfold impl_Model_standard_j1 sortS
  rw [if_pos (by omega), bind_s, CompactText_eq _ (by omega), bind_s, hms]
  rfl
 unfold impl_Model_standard
 refine (loop_push_map (f := impl_Model_standard_l1 m) m.2 (0, [], [], 0, []) (fun r => textF (canB r)) [] (fun _ => stdS (m.2.map (fun r => textF (canB r)))) (fun i out hi ho => ?_) ?_)
 ·have hmem : m.2.getD i (0, [], [], 0, []) ∈ m.2 := getD_memG hi
  have hok := rules_okV hm _ hmem
  have hsm := h.2.2 _ hmem
  unfold impl_Model_standard_l1
  dsimp only
  rw [cdec_pos (by omega), rq_pos ⟨by omega, by omega⟩, Int.toNat_natCast, impl_canonical_eq (n := m.1.length) (by omega) hsm hok, bind_s]
  have e := text_eq (n := m.1.length) (by omega) (canB_small hsm hok) (canB_ok hok)
  unfold canV
  dsimp only
  show (impl_Rule_text (canB (m.2.getD i (0, [], [], 0, [])))).bind _ = _
  rw [e, bind_s, rq_pos (by simp only [bound, List.length_cons, List.length_nil]; simp at ho; omega), rq_i64 (by omega) (by omega)]
 ·unfold impl_Model_standard_l1
  dsimp only
  rw [cdec_neg (by omega), List.nil_append, hj]
  rfl

theorem impl_SymmetryValid_eq (m : ModT) (p : List Int) (h : smallM m) (hp : p.length ≤ 1048576) : impl_SymmetryValid m p = some (symB m p) := by
 unfold impl_SymmetryValid symB
 rw [impl_PermValid_eq m p h hp, bind_s]
 cases hv : permB m p with
 | false => rw [cff, Bool.false_and]
 | true =>
  have hm := permB_mod hv
  have hl := modB_len hm
  have hlen : (stdS ((renM p m).2.map (fun r => textF (canB r)))).length ≤ 8 := by
   have := onceF_len [] (((renM p m).2.map (fun r => textF (canB r))).mergeSort fun x y => decide (x ≤ y)) ((renM p m).2.map (fun r => textF (canB r))).length
   have e : ((renM p m).2.map (fun r => textF (canB r))).length = m.2.length := by
    rw [List.length_map]
    show (m.2.map (renR p)).length = _
    rw [List.length_map]
   unfold stdS
   omega
  rw [ctt, Bool.true_and, impl_permuted_eq m p h hv, bind_s, standard_eq (renM_small p h) (modB_ren hv), bind_s, standard_eq h hm, bind_s, EqualText_eq _ _ (by omega), bind_s, std_same (n := m.1.length) (by omega) (ren_ok hv) (rules_ok hm)]

theorem spec_SameRule_eq {a b : RuleT} (ha : smallR a) : spec_l6SameRule a b = some (a == b) := by
 have hne : ∀ {x y : RuleT}, x ≠ y → (x == y) = false := fun h => beq_eq_false_iff_ne.2 h
 unfold spec_l6SameRule
 by_cases h1 : a.1 = b.1
 rotate_left
 ·rw [cbne_pos h1, hne (fun e => h1 (by rw [e]))]
 by_cases h2 : a.2.2.2.1 = b.2.2.2.1
 rotate_left
 ·rw [cbne_neg h1, cbne_pos h2, hne (fun e => h2 (by rw [e]))]
 rw [cbne_neg h1, cbne_neg h2, spec_l6Ints_eq _ _ ha.1, bind_s]
 by_cases h3 : a.2.1 = b.2.1
 rotate_left
 ·rw [beq_eq_false_iff_ne.2 h3, Bool.not_false, ctt, hne (fun e => h3 (by rw [e]))]
 rw [beq_iff_eq.2 h3, Bool.not_true, cff, spec_l6Ints_eq _ _ ha.2.1, bind_s]
 by_cases h4 : a.2.2.1 = b.2.2.1
 rotate_left
 ·rw [beq_eq_false_iff_ne.2 h4, Bool.not_false, ctt, hne (fun e => h4 (by rw [e]))]
 rw [beq_iff_eq.2 h4, Bool.not_true, cff]
 by_cases h5 : a.2.2.2.2.length = b.2.2.2.2.length
 rotate_left
 ·rw [cbne_pos (by omega), hne (fun e => h5 (by rw [e]))]
 rw [cbne_neg (by omega)]
 have hrl := ha.2.2.1
 refine loop_fn (f := spec_l6SameRule_l1 a b) (fun s : Int => ∃ i : Nat, s = i ∧ i ≤ a.2.2.2.2.length ∧ ∀ j, j < i → a.2.2.2.2.getD j [] = b.2.2.2.2.getD j []) (fun s => a.2.2.2.2.length - s.toNat) (fun _ => a == b) ?_ _ ⟨0, rfl, Nat.zero_le _, fun j hj => by omega⟩
 rintro s ⟨i, rfl, hi, he⟩
 unfold spec_l6SameRule_l1
 rcases Nat.lt_or_ge i a.2.2.2.2.length with h6 | h6
 ·have hx := ha.2.2.2 _ (getD_memG (d := []) h6)
  rw [cdec_pos (by omega), rq_pos ⟨by omega, by omega⟩, rq_pos ⟨by omega, by omega⟩, Int.toNat_natCast, spec_l6Ints_eq _ _ hx, bind_s]
  by_cases q : a.2.2.2.2.getD i [] = b.2.2.2.2.getD i []
  ·left
   rw [beq_iff_eq.2 q, Bool.not_true, cff, rq_i64 (by omega) (by omega)]
   refine ⟨_, rfl, ⟨i + 1, by simp, by omega, fun j hj => ?_⟩, by omega, rfl⟩
   rcases Nat.lt_or_ge j i with h | h
   ·exact he j h
   ·rw [show j = i by omega]; exact q
  ·right
   rw [beq_eq_false_iff_ne.2 q, Bool.not_false, ctt, hne (fun e => q (by rw [e]))]
 ·right
  have : i = a.2.2.2.2.length := by omega
  subst this
  rw [cdec_neg (by omega)]
  have e : a.2.2.2.2 = b.2.2.2.2 := by
   refine List.ext_getElem h5 (fun j j1 j2 => ?_)
   have := he j j1
   rw [List.getD_eq_getElem?_getD, List.getElem?_eq_getElem j1, List.getD_eq_getElem?_getD, List.getElem?_eq_getElem j2] at this
   exact this
  have : a = b := by
   obtain ⟨a1, a2, a3, a4, a5⟩ := a
   obtain ⟨b1, b2, b3, b4, b5⟩ := b
   dsimp only at h1 h2 h3 h4 e
   subst h1 h2 h3 h4 e
   rfl
  rw [beq_iff_eq.2 this]

theorem take_anyG {α : Type} {l : List α} {n : Nat} {d : α} {q : α → Bool} (h : n < l.length) : (l.take (n + 1)).any q = ((l.take n).any q || q (l.getD n d)) := by
 rw [take_snocG d h, List.any_append]
 simp

theorem spec_Within_eq {n : Int} {a b : ModT} (ha : smallM a) (hb : smallM b) (ra : ∀ r ∈ a.2, RuleOk n r) (rb : ∀ r ∈ b.2, RuleOk n r) : spec_l10Within a b = some (withinB a.2 b.2) := by
 have hal := ha.2.1
 have hbl := hb.2.1
 have inner : ∀ i : Nat, i < a.2.length → loop (spec_l10Within_l2 a b i) (false, (0 : Int)) = some (bif b.2.any (fun y => canB (a.2.getD i (0, [], [], 0, [])) == canB y) then .inl ((i : Int) + 1) else .inr false) := by
  intro i hi
  have hmem : a.2.getD i (0, [], [], 0, []) ∈ a.2 := getD_memG hi
  have ca := spec_canonical_eq (ha.2.2 _ hmem) (ra _ hmem)
  have sa := canB_small (ha.2.2 _ hmem) (ra _ hmem)
  refine loop_fn (f := spec_l10Within_l2 a b i) (fun s : Bool × Int => ∃ k : Nat, s.2 = k ∧ k ≤ b.2.length ∧ s.1 = (b.2.take k).any (fun y => canB (a.2.getD i (0, [], [], 0, [])) == canB y)) (fun s => b.2.length - s.2.toNat) (fun _ => bif b.2.any (fun y => canB (a.2.getD i (0, [], [], 0, [])) == canB y) then .inl ((i : Int) + 1) else .inr false) ?_ _ ⟨0, rfl, Nat.zero_le _, rfl⟩
  rintro ⟨f, s⟩ ⟨k, hk, hle, hf⟩
  dsimp only at hk hf ⊢
  subst hk
  unfold spec_l10Within_l2
  dsimp only
  rcases Nat.lt_or_ge k b.2.length with h1 | h1
  ·left
   have hst := take_anyG (l := b.2) (n := k) (d := (0, [], [], 0, [])) (q := fun y => canB (a.2.getD i (0, [], [], 0, [])) == canB y) h1
   rw [cdec_pos (by omega)]
   cases hf1 : f with
   | true =>
    rw [ctt, rq_i64 (by omega) (by omega)]
    refine ⟨_, rfl, ⟨k + 1, by simp, by omega, ?_⟩, by (try dsimp only) <;> omega, rfl⟩
    dsimp only
    rw [hst, ← hf, hf1, Bool.true_or]
   | false =>
    have hmb : b.2.getD k (0, [], [], 0, []) ∈ b.2 := getD_memG h1
    have cb := spec_canonical_eq (hb.2.2 _ hmb) (rb _ hmb)
    rw [cff, rq_pos ⟨by omega, by omega⟩, Int.toNat_natCast, ca, bind_s, rq_pos ⟨by omega, by omega⟩, Int.toNat_natCast, cb, bind_s]
    unfold canW
    dsimp only
    show ∃ s', (spec_l6SameRule (canB (a.2.getD i (0, [], [], 0, []))) (canB (b.2.getD k (0, [], [], 0, [])))).bind _ = _ ∧ _
    rw [spec_SameRule_eq sa, bind_s, rq_i64 (by omega) (by omega)]
    refine ⟨_, rfl, ⟨k + 1, by simp, by omega, ?_⟩, by (try dsimp only) <;> omega, rfl⟩
    dsimp only
    rw [hst, ← hf, hf1, Bool.false_or]
  ·right
   have : k = b.2.length := by omega
   subst this
   rw [List.take_length] at hf
   rw [cdec_neg (by omega), ← hf]
   cases f with
   | true => rw [Bool.not_true, cff, rq_i64 (by omega) (by omega), ctt]
   | false => rw [Bool.not_false, ctt, cff]
 unfold spec_l10Within
 rw [loop_all a.2.length (fun i => b.2.any (fun y => canB (a.2.getD i (0, [], [], 0, [])) == canB y)) false true]
 ·unfold withinB
  have e : (List.range a.2.length).all (fun i => b.2.any (fun y => canB (a.2.getD i (0, [], [], 0, [])) == canB y)) = a.2.all (fun x => b.2.any (fun y => canB x == canB y)) := by
   rw [Bool.eq_iff_iff, List.all_eq_true, List.all_eq_true]
   constructor
   ·intro h x hx
    obtain ⟨i, hi, rfl⟩ := List.mem_iff_getElem.1 hx
    have := h i (List.mem_range.2 hi)
    rw [List.getD_eq_getElem?_getD, List.getElem?_eq_getElem hi] at this
    exact this
   ·intro h i hi
    exact h _ (getD_memG (List.mem_range.1 hi))
  rw [e]
  cases a.2.all (fun x => b.2.any (fun y => canB x == canB y)) <;> rfl
 ·intro i hi _
  unfold spec_l10Within_l1
  rw [cdec_pos (by omega), inner i hi]
 ·unfold spec_l10Within_l1
  rw [cdec_neg (by omega)]

theorem spec_SymmetryValid_eq (m : ModT) (p : List Int) (h : smallM m) (hp : p.length ≤ 1048576) : spec_SymmetryValid m p = some (symB m p) := by
 unfold spec_SymmetryValid symB
 rw [spec_PermuteModel_eq m p h hp, bind_s]
 unfold renB
 cases hv : permB m p with
 | false => rw [cff, cff, Bool.false_and]
 | true =>
  have hm := permB_mod hv
  rw [ctt, Bool.true_and]
  dsimp only
  rw [ctt, spec_Within_eq (n := m.1.length) (renM_small p h) h (ren_ok hv) (rules_ok hm), bind_s]
  unfold sameB
  cases hw : withinB (renM p m).2 m.2 with
  | false => rw [cff, Bool.false_and]
  | true => rw [ctt, Bool.true_and, spec_Within_eq (n := m.1.length) h (renM_small p h) (rules_ok hm) (ren_ok hv), bind_s]

end Go.AE.Y
namespace Go.AE.Y
open Go Go.AE

def swapP (n i k : Nat) : List Int := ((nums n).set i k).set k i
theorem swapP_len (n i k : Nat) : (swapP n i k).length = n := by unfold swapP; rw [List.length_set, List.length_set, nums_len]
theorem swapP_get {n i k j : Nat} (hj : j < n) (hi : i < n) (hk : k < n) (hne : i ≠ k) : (swapP n i k).getD j 0 = if j = i then (k : Int) else if j = k then (i : Int) else j := by
 unfold swapP
 rw [List.getD_eq_getElem?_getD]
 by_cases h1 : j = k
 ·subst h1
  rw [List.getElem?_set_self (by rw [List.length_set, nums_len]; exact hj), if_neg (by omega), if_pos rfl]
  rfl
 ·rw [List.getElem?_set_ne (by omega)]
  by_cases h2 : j = i
  ·subst h2
   rw [List.getElem?_set_self (by rw [nums_len]; exact hj), if_pos rfl]
   rfl
  ·rw [List.getElem?_set_ne (by omega), if_neg h2, if_neg h1, ← List.getD_eq_getElem?_getD, nums_get hj]

def pairsW (m : ModT) (i k : Nat) : List (List Int) := ((List.range k).filter (fun q => decide (i < q) && symB m (swapP m.1.length i q))).map (fun q : Nat => [(i : Int), (q : Int)])
def swapsF (m : ModT) (i : Nat) : List (List Int) := (List.range i).flatMap (fun j => pairsW m j m.1.length)

theorem pairsW_len (m : ModT) (i k : Nat) : (pairsW m i k).length ≤ k := by
 unfold pairsW
 rw [List.length_map]
 exact Nat.le_trans (List.length_filter_le _ _) (Nat.le_of_eq List.length_range)
theorem pairsW_start (m : ModT) (i : Nat) : pairsW m i (i + 1) = [] := by
 unfold pairsW
 rw [List.map_eq_nil_iff, List.filter_eq_nil_iff]
 intro q hq
 rw [List.mem_range] at hq
 rw [decide_eq_false (by omega), Bool.false_and]
 exact Bool.false_ne_true
theorem pairsW_succ {m : ModT} {i k : Nat} (h : i < k) : pairsW m i (k + 1) = bif symB m (swapP m.1.length i k) then pairsW m i k ++ [[(i : Int), (k : Int)]] else pairsW m i k := by
 unfold pairsW
 rw [List.range_succ, List.filter_append, List.map_append]
 rw [List.filter_cons, List.filter_nil, decide_eq_true h, Bool.true_and]
 cases symB m (swapP m.1.length i k) with
 | true => rw [ctt]; rfl
 | false => rw [cff]; simp
theorem swapsF_succ (m : ModT) (i : Nat) : swapsF m (i + 1) = swapsF m i ++ pairsW m i m.1.length := by
 unfold swapsF
 rw [List.range_succ, List.flatMap_append]
 simp
theorem swapsF_len (m : ModT) : ∀ i, (swapsF m i).length ≤ i * m.1.length
 | 0 => Nat.zero_le _
 | i + 1 => by
  have := swapsF_len m i
  have := pairsW_len m i m.1.length
  rw [swapsF_succ, List.length_append, Nat.succ_mul]
  omega

theorem pairs_loop {R : Type} {m : ModT} (hn : m.1.length ≤ 5) {f1 : Int × List (List Int) → Option ((Int × List (List Int)) ⊕ R)} {f2 : Int → Int × List (List Int) → Option ((Int × List (List Int)) ⊕ ((Int × List (List Int)) ⊕ R))} {fin : List (List Int) → R}
  (h1 : ∀ (i : Nat) out, i < m.1.length → f1 (i, out) = loop (f2 i) ((i : Int) + 1, out)) (h2 : ∀ out, f1 (m.1.length, out) = some (.inr (fin out)))
  (h3 : ∀ (i k : Nat) out, i < k → k < m.1.length → out.length ≤ 1000 → f2 i (k, out) = some (.inl ((k : Int) + 1, bif symB m (swapP m.1.length i k) then out ++ [[(i : Int), (k : Int)]] else out)))
  (h4 : ∀ (i : Nat) out, i < m.1.length → f2 i (m.1.length, out) = some (.inr (.inl ((i : Int) + 1, out)))) : loop f1 ((0 : Int), []) = some (fin (swapsF m m.1.length)) := by
 refine loop_fn (f := f1) (fun s : Int × List (List Int) => ∃ i : Nat, s.1 = i ∧ i ≤ m.1.length ∧ s.2 = swapsF m i) (fun s => m.1.length - s.1.toNat) (fun _ => fin (swapsF m m.1.length)) ?_ _ ⟨0, rfl, Nat.zero_le _, rfl⟩
 rintro ⟨s, out⟩ ⟨i, hi, hle, ho⟩
 dsimp only at hi ho ⊢
 subst hi ho
 rcases Nat.lt_or_ge i m.1.length with h5 | h5
 ·left
  have hsl : (swapsF m i).length ≤ 25 := Nat.le_trans (swapsF_len m i) (Nat.mul_le_mul (by omega : i ≤ 5) hn)
  have key : loop (f2 i) ((i : Int) + 1, swapsF m i) = some (.inl ((i : Int) + 1, swapsF m (i + 1))) := by
   refine loop_fn (f := f2 i) (fun s : Int × List (List Int) => ∃ k : Nat, s.1 = k ∧ i < k ∧ k ≤ m.1.length ∧ s.2 = swapsF m i ++ pairsW m i k) (fun s => m.1.length - s.1.toNat) (fun _ => .inl ((i : Int) + 1, swapsF m (i + 1))) ?_ _ ⟨i + 1, by simp, by omega, by omega, by rw [pairsW_start, List.append_nil]⟩
   rintro ⟨s, out⟩ ⟨k, hk, hik, hkl, ho⟩
   dsimp only at hk ho ⊢
   subst hk ho
   rcases Nat.lt_or_ge k m.1.length with h6 | h6
   ·left
    have hpl := pairsW_len m i k
    refine ⟨_, h3 i k _ hik h6 (by rw [List.length_append]; omega), ⟨k + 1, by simp, by omega, by omega, ?_⟩, by (try dsimp only) <;> omega, rfl⟩
    dsimp only
    rw [pairsW_succ hik]
    cases symB m (swapP m.1.length i k) with
    | true => rw [ctt, ctt, List.append_assoc]
    | false => rw [cff, cff]
   ·right
    have : k = m.1.length := by omega
    subst this
    rw [h4 i _ h5, swapsF_succ]
  rw [h1 i _ h5, key]
  exact ⟨_, rfl, ⟨i + 1, by simp, by omega, rfl⟩, by (try dsimp only) <;> omega, rfl⟩
 ·right
  have : i = m.1.length := by omega
  subst this
  exact h2 _

theorem impl_pair {m : ModT} (h : smallM m) (hn : m.1.length ≤ 5) {i k : Nat} (hik : i < k) (hk : k < m.1.length) {out : List (List Int)} (ho : out.length ≤ 1000) :
  impl_FindSwaps_l2 m i (k, out) = some (.inl ((k : Int) + 1, bif symB m (swapP m.1.length i k) then out ++ [[(i : Int), (k : Int)]] else out)) := by
 unfold impl_FindSwaps_l2
 dsimp only
 have hj : impl_FindSwaps_j1 m i k out (nums m.1.length) = some (.inl ((k : Int) + 1, bif symB m (swapP m.1.length i k) then out ++ [[(i : Int), (k : Int)]] else out)) := by
  unfold impl_FindSwaps_j1
  have hl := nums_len m.1.length
  rw [rq_pos ⟨by omega, by omega⟩, Int.toNat_natCast, rq_pos ⟨by omega, by rw [List.length_set]; omega⟩, Int.toNat_natCast]
  have e : impl_SymmetryValid m (((nums m.1.length).set i k).set k i) = some (symB m (swapP m.1.length i k)) := impl_SymmetryValid_eq m (swapP m.1.length i k) h (by rw [swapP_len]; omega)
  rw [e, bind_s]
  cases symB m (swapP m.1.length i k) with
  | true => rw [ctt, ctt, rq_pos (by simp only [bound, List.length_cons, List.length_nil]; omega), rq_i64 (by omega) (by omega)]
  | false => rw [cff, cff, rq_i64 (by omega) (by omega)]
 rw [cdec_pos (by omega)]
 have hnum : nums m.1.length = (List.range m.1.length).map Int.ofNat := rfl
 refine (loop_push_map (f := impl_FindSwaps_l3 m i k out) (List.range m.1.length) 0 Int.ofNat [] (fun _ => .inl ((k : Int) + 1, bif symB m (swapP m.1.length i k) then out ++ [[(i : Int), (k : Int)]] else out)) (fun q o hq hl => ?_) ?_)
 ·rw [List.length_range] at hq
  unfold impl_FindSwaps_l3
  dsimp only
  rw [cdec_pos (by omega), rq_pos (by simp only [bound, List.length_cons, List.length_nil]; simp at hl; omega), rq_i64 (by omega) (by omega)]
  rw [List.getD_eq_getElem?_getD, List.getElem?_range hq]
  rfl
 ·unfold impl_FindSwaps_l3
  dsimp only
  rw [List.length_range, cdec_neg (by omega), List.nil_append, ← hnum, hj]
  rfl

theorem impl_FindSwaps_eq {m : ModT} (h : smallM m) : impl_FindSwaps m = some (bif modB m then swapsF m m.1.length else []) := by
 unfold impl_FindSwaps
 rw [impl_ModelValid_eq m h, bind_s]
 cases hm : modB m with
 | false => rw [Bool.not_false, ctt, cff]
 | true =>
  have hn := modB_len hm
  rw [Bool.not_true, cff, ctt]
  refine pairs_loop (f1 := impl_FindSwaps_l1 m) (f2 := impl_FindSwaps_l2 m) (fin := fun o => o) (by omega) (fun i out hi => ?_) (fun out => ?_) (fun i k out hik hk ho => impl_pair h (by omega) hik hk ho) (fun i out hi => ?_)
  ·unfold impl_FindSwaps_l1
   dsimp only
   rw [cdec_pos (by omega), rq_i64 (by omega) (by omega)]
  ·unfold impl_FindSwaps_l1
   dsimp only
   rw [cdec_neg (by omega)]
  ·unfold impl_FindSwaps_l2
   dsimp only
   rw [cdec_neg (by omega), rq_i64 (by omega) (by omega)]

theorem mem_swapsF {m : ModT} {n : Nat} {x : List Int} : x ∈ swapsF m n ↔ ∃ i k : Nat, i < n ∧ i < k ∧ k < m.1.length ∧ symB m (swapP m.1.length i k) = true ∧ x = [(i : Int), (k : Int)] := by
 unfold swapsF pairsW
 rw [List.mem_flatMap]
 constructor
 ·rintro ⟨i, hi, hx⟩
  obtain ⟨k, hk, rfl⟩ := List.mem_map.1 hx
  rw [List.mem_filter, Bool.and_eq_true, decide_eq_true_eq, List.mem_range] at hk
  exact ⟨i, k, List.mem_range.1 hi, hk.2.1, hk.1, hk.2.2, rfl⟩
 ·rintro ⟨i, k, h1, h2, h3, h4, rfl⟩
  refine ⟨i, List.mem_range.2 h1, List.mem_map.2 ⟨k, ?_, rfl⟩⟩
  rw [List.mem_filter, Bool.and_eq_true, decide_eq_true_eq, List.mem_range]
  exact ⟨h3, h2, h4⟩

def swapsB (m : ModT) : List (List Int) := bif modB m then swapsF m m.1.length else []
theorem swapsB_small (m : ModT) : (swapsB m).length ≤ 25 ∧ ∀ x ∈ swapsB m, x.length = 2 := by
 unfold swapsB
 cases hm : modB m with
 | false => rw [cff]; exact ⟨Nat.zero_le _, fun x hx => by cases hx⟩
 | true =>
  have hn := modB_len hm
  rw [ctt]
  refine ⟨Nat.le_trans (swapsF_len m _) (Nat.mul_le_mul hn.2.1 hn.2.1), fun x hx => ?_⟩
  obtain ⟨i, k, _, _, _, _, rfl⟩ := mem_swapsF.1 hx
  rfl

end Go.AE.Y
namespace Go.AE.Y
open Go Go.AE

def okDm (d : List (List Bool)) : Prop := d.length ≤ 8 ∧ ∀ x ∈ d, x.length ≤ 8

theorem okDm.small {d : List (List Bool)} (h : okDm d) : smallD d := ⟨by have := h.1; omega, fun x hx => by have := h.2 x hx; omega⟩

end Go.AE.Y
namespace Go.AE.Y
open Go Go.AE

end Go.AE.Y
namespace Go.AE.Y
open Go Go.AE

theorem spec_DrawSymmetryValid_ok {a : List Int} (h : ∀ x ∈ a, 0 ≤ x ∧ x ≤ 255) : ∃ p m, spec_DrawSymmetryValid a = some (p, m) ∧ p.length ≤ 8 ∧ okM m := by
 unfold spec_DrawSymmetryValid spec_DrawPermValid
 obtain ⟨r, e1, h1⟩ := open_ok h
 obtain ⟨r2, m, e2, a2, m2⟩ := spec_l10Model_ok (h1.wk (by omega))
 have h2 : RdOk r2 2000 := a2.ok h1 (by omega)
 have m2' : m.1.length ≤ 4 ∧ m.2.length ≤ 4 ∧ ∀ r ∈ m.2, okR r := m2
 obtain ⟨r3, m', e3, a3, m3⟩ := spec_l6Mutate_ok (m := m) (h2.wk (by omega)) m2'
 have h3 : RdOk r3 3000 := a3.ok h2 (by omega)
 obtain ⟨r4, c, e4, a4, m4⟩ := spec_l10Perm_ok (o1 := m'.1) m'.2 (h3.wk (by omega)) (by omega)
 rw [e1, bind_s, e2, bind_s]
 dsimp only
 rw [e3, bind_s]
 dsimp only
 rw [e4, bind_s, bind_s]
 exact ⟨c, m', rfl, by have := m3.1; omega, okM_of m3⟩

end Go.AE.Y
namespace Go.AE.Y
open Go Go.AE

theorem permB_c {m : ModT} {p : List Int} : permB m p = true ↔ modB m = true ∧ p.length = m.1.length ∧ freshB p m.1.length = true ∧ ∀ i, i < p.length → m.1.getD (p.getD i 0).toNat 0 = m.1.getD i 0 := by
 unfold permB
 simp only [Bool.and_eq_true, decide_eq_true_eq, List.all_eq_true, List.mem_range]
 unfold sizeAt
 simp only [beq_iff_eq]

theorem map_getG {l : List Int} {f : Int → Int} {i : Nat} (h : i < l.length) : (l.map f).getD i 0 = f (l.getD i 0) := by
 rw [List.getD_eq_getElem?_getD, List.getElem?_map, List.getD_eq_getElem?_getD, List.getElem?_eq_getElem h]
 rfl

theorem permB_comp {m : ModT} {p s : List Int} (hp : permB m p = true) (hs : permB m s = true) : permB m (p.map (renV s)) = true := by
 obtain ⟨a1, a2, a3, a4⟩ := permB_c.1 hp
 obtain ⟨b1, b2, b3, b4⟩ := permB_c.1 hs
 refine permB_c.2 ⟨a1, by rw [List.length_map]; exact a2, freshB_ren hs a3, fun i hi => ?_⟩
 rw [List.length_map] at hi
 rw [map_getG hi]
 have hr := freshB_in a3 hi
 unfold renV
 rw [b4 _ (by omega), a4 i hi]

theorem ren_comp {m : ModT} {p s : List Int} (hp : permB m p = true) : (renM (p.map (renV s)) m).2 = (renM p m).2.map (renR s) := by
 obtain ⟨a1, a2, a3⟩ := permB_at hp
 show m.2.map (renR (p.map (renV s))) = (m.2.map (renR p)).map (renR s)
 rw [List.map_map]
 refine List.map_congr_left (fun r hr => ?_)
 show (r.1, r.2.1.map (renV (p.map (renV s))), r.2.2) = (r.1, (r.2.1.map (renV p)).map (renV s), r.2.2)
 rw [List.map_map]
 congr 2
 refine List.map_congr_left (fun v hv => ?_)
 obtain ⟨i, hi, rfl⟩ := List.mem_iff_getElem.1 hv
 have hm := modB_vars a1 hr hi
 rw [List.getD_eq_getElem?_getD, List.getElem?_eq_getElem hi] at hm
 simp only [Option.getD_some] at hm
 show (p.map (renV s)).getD (r.2.1[i]).toNat 0 = renV s (renV p r.2.1[i])
 rw [map_getG (by omega)]
 rfl

theorem symB_comp {m : ModT} {p s : List Int} (hp : symB m p = true) (hs : symB m s = true) : symB m (p.map (renV s)) = true := by
 unfold symB at *
 rw [Bool.and_eq_true] at *
 have hm := permB_mod hp.1
 refine ⟨permB_comp hp.1 hs.1, ?_⟩
 rw [ren_comp hp.1]
 have h1 : sameB ((renM p m).2.map (renR s)) (m.2.map (renR s)) = true := same_ren hs.1 (ren_ok hp.1) (rules_ok hm) hp.2
 exact sameB_trans h1 hs.2

theorem swap_renV {n i k : Nat} (hi : i < n) (hk : k < n) (hne : i ≠ k) {x : Int} (hx : 0 ≤ x ∧ x < n) : renV (swapP n i k) x = if x = i then (k : Int) else if x = k then (i : Int) else x := by
 unfold renV
 rw [swapP_get (by omega : x.toNat < n) hi hk hne]
 by_cases h1 : x = i
 ·rw [if_pos (by omega), if_pos h1]
 ·rw [if_neg (by omega), if_neg h1]
  by_cases h2 : x = k
  ·rw [if_pos (by omega), if_pos h2]
  ·rw [if_neg (by omega), if_neg h2]
   omega

theorem law_FnSymmetryCompose {a b : List Int} (ha : ∀ x ∈ a, 0 ≤ x ∧ x ≤ 255) : laws_FnSymmetryCompose a b = some true := by
 unfold laws_FnSymmetryCompose
 by_cases h0 : 1048576 < (a.length : Int)
 ·rw [cdec_pos h0]
 rw [cdec_neg h0]
 by_cases h0' : 1048576 < (b.length : Int)
 ·rw [cdec_pos h0']
 rw [cdec_neg h0']
 obtain ⟨p, m, e1, hp, hm⟩ := spec_DrawSymmetryValid_ok ha
 have hs := hm.small
 obtain ⟨q1, q2⟩ := swapsB_small m
 have ei : impl_FindSwaps m = some (swapsB m) := impl_FindSwaps_eq hs
 rw [e1, bind_s]
 dsimp only
 rw [impl_SymmetryValid_eq m p hs (by omega), bind_s, ei, bind_s, spec_SymmetryValid_eq m p hs (by omega), bind_s, bne_self_eq_false, cff]
 cases hv : symB m p with
 | false => rw [Bool.not_false, ctt, bind_s, beq_self_eq_true]
 | true =>
  rw [Bool.not_true, cff]
  by_cases hz : (swapsB m).length = 0
  ·rw [cbeq_pos (by omega), bind_s, beq_self_eq_true]
  rw [cbeq_neg (by omega)]
  have hv' := hv
  unfold symB at hv'
  rw [Bool.and_eq_true] at hv'
  have hpm := hv'.1
  have hmod := permB_mod hpm
  obtain ⟨k1, k2, k3⟩ := permB_at hpm
  have hml := modB_len hmod
  have hj1 : 0 ≤ (b.length : Int) % ((swapsB m).length : Int) := Int.emod_nonneg _ (by omega)
  have hj2 : (b.length : Int) % ((swapsB m).length : Int) < (swapsB m).length := Int.emod_lt_of_pos _ (by omega)
  rw [rq_pos ⟨by omega, by omega⟩, rq_pos ⟨hj1, hj2⟩, rq_pos (by simp only [bound, List.length_nil]; omega), List.nil_append]
  have hmem : (swapsB m).getD ((b.length : Int) % ((swapsB m).length : Int)).toNat [] ∈ swapsB m := getD_memG (by omega)
  have hmem' := hmem
  unfold swapsB at hmem'
  rw [hmod, ctt] at hmem'
  obtain ⟨i, k, _, hik, hkn, hsw, hx⟩ := mem_swapsF.1 hmem'
  have hx : (swapsB m).getD ((b.length : Int) % ((swapsB m).length : Int)).toNat [] = [(i : Int), (k : Int)] := by
   rw [← hx]
   unfold swapsB
   rw [hmod, ctt]
  have hcomp := symB_comp hv hsw
  have hfin : laws_FnSymmetryCompose_j1 (p, m) (p.map (renV (swapP m.1.length i k))) = some true := by
   unfold laws_FnSymmetryCompose_j1
   rw [impl_SymmetryValid_eq m _ hs (by rw [List.length_map]; omega), bind_s, hcomp]
  refine loop_fn (f := laws_FnSymmetryCompose_l1 b (p, m) (swapsB m)) (fun s : Int × List Int => ∃ j : Nat, s.1 = j ∧ j ≤ p.length ∧ s.2 = (p.map (renV (swapP m.1.length i k))).take j ++ p.drop j) (fun s => p.length - s.1.toNat) (fun _ => true) ?_ _ ⟨0, rfl, Nat.zero_le _, rfl⟩
  rintro ⟨s, l⟩ ⟨j, hj, hle, hl⟩
  dsimp only at hj hl ⊢
  subst hj
  have hll : l.length = p.length := by rw [hl, List.length_append, List.length_take, List.length_map, List.length_drop]; omega
  unfold laws_FnSymmetryCompose_l1
  dsimp only
  rcases Nat.lt_or_ge j p.length with h1 | h1
  ·left
   have hpj := k3 j h1
   have hget : l.getD j 0 = p.getD j 0 := by
    rw [hl, List.getD_eq_getElem?_getD, List.getElem?_append_right (by rw [List.length_take, List.length_map]; omega), List.getElem?_drop, ← List.getD_eq_getElem?_getD, List.length_take, List.length_map]
    congr 1
    omega
   have hren := swap_renV (by omega : i < m.1.length) hkn (by omega) hpj
   have hset : l.set j (renV (swapP m.1.length i k) (p.getD j 0)) = (p.map (renV (swapP m.1.length i k))).take (j + 1) ++ p.drop (j + 1) := by
    have hlt : ((p.map (renV (swapP m.1.length i k))).take j).length = j := by rw [List.length_take, List.length_map]; omega
    rw [hl, take_snocG (l := p.map (renV (swapP m.1.length i k))) (n := j) 0 (by rw [List.length_map]; exact h1), map_getG h1, List.drop_eq_getElem_cons h1]
    rw [List.set_append_right _ _ (by omega), hlt, Nat.sub_self, List.append_assoc]
    rfl
   have hfix : ∀ y : Int, renV (swapP m.1.length i k) (p.getD j 0) = y → l.set j y = (p.map (renV (swapP m.1.length i k))).take (j + 1) ++ p.drop (j + 1) := fun y e => by rw [← e]; exact hset
   have hsame : l.set j (p.getD j 0) = l := by
    refine List.ext_getElem (by rw [List.length_set]) (fun q a1 a2 => ?_)
    rw [List.getElem_set]
    split
    ·rename_i e
     subst e
     rw [← hget, List.getD_eq_getElem?_getD, List.getElem?_eq_getElem (by omega : j < l.length)]
     rfl
    ·rfl
   rw [hx, cdec_pos (by omega), rq_pos ⟨by omega, by omega⟩, rq_pos ⟨by decide, by simp⟩, Int.toNat_natCast, hget]
   show ∃ s', (bif p.getD j 0 == (i : Int) then _ else _) = _ ∧ _
   by_cases c1 : p.getD j 0 = i
   ·rw [beq_iff_eq.2 c1, ctt, rq_pos ⟨by decide, by simp⟩, rq_pos ⟨by omega, by omega⟩, rq_i64 (by omega) (by omega)]
    refine ⟨_, rfl, ⟨j + 1, by simp, by omega, ?_⟩, by (try dsimp only) <;> omega, rfl⟩
    exact hfix _ (by rw [hren, if_pos c1]; rfl)
   ·rw [beq_eq_false_iff_ne.2 c1, cff, rq_pos ⟨by omega, by omega⟩, rq_pos ⟨by decide, by simp⟩]
    show ∃ s', (bif p.getD j 0 == (k : Int) then _ else _) = _ ∧ _
    by_cases c2 : p.getD j 0 = k
    ·rw [beq_iff_eq.2 c2, ctt, rq_pos ⟨by decide, by simp⟩, rq_pos ⟨by omega, by omega⟩, rq_i64 (by omega) (by omega)]
     refine ⟨_, rfl, ⟨j + 1, by simp, by omega, ?_⟩, by (try dsimp only) <;> omega, rfl⟩
     exact hfix _ (by rw [hren, if_neg c1, if_pos c2]; rfl)
    ·rw [beq_eq_false_iff_ne.2 c2, cff, rq_i64 (by omega) (by omega)]
     refine ⟨_, rfl, ⟨j + 1, by simp, by omega, ?_⟩, by (try dsimp only) <;> omega, rfl⟩
     dsimp only
     rw [← hsame]
     exact hfix _ (by rw [hren, if_neg c1, if_neg c2])
  ·right
   have : j = p.length := by omega
   subst this
   rw [cdec_neg (by omega), hl, List.drop_length, List.append_nil, List.take_of_length_le (by rw [List.length_map]; omega), hfin]
   rfl
end Go.AE.Y
