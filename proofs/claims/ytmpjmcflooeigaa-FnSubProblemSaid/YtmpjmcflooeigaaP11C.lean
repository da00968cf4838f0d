/-
  Plain laws: assignments by number; problems that can be solved; minimal cores and maximal parts.
-/
import Derived.Test.YtmpjmcflooeigaaP12K
import Derived.Test.YtmpjmcflooeigaaP11S
namespace Go.AE.Y
open Go Go.AE

/-! ### Assignments by number, both ways -/

theorem rep_get (n i : Nat) : (List.replicate n false).getD i false = false := by
  rw [List.getD_eq_getElem?_getD, List.getElem?_replicate]
  split <;> rfl

def bitsB (k : Nat) : List Bool := (List.range 12).map (fun j => k / 2 ^ (11 - j) % 2 == 1)
theorem bitsB_len (k : Nat) : (bitsB k).length = 12 := by simp [bitsB]
theorem bitsB_get {k j : Nat} (h : j < 12) : (bitsB k).getD j false = (k / 2 ^ (11 - j) % 2 == 1) := by
  unfold bitsB
  rw [getD_map (d := 0) (h := by simpa using h)]
  simp [List.getD_eq_getElem?_getD, h]

theorem impl_numbered_bits {k : Nat} (h : k ≤ 100000) : impl_numbered k = some (bitsB k) := by
  unfold impl_numbered
  rw [rq_pos (by simp [bound])]
  have hr : (List.range 12).length = 12 := by simp
  have := loop_copy (f := impl_numbered_l1 k) (List.range 12) 0 false (fun j => k / 2 ^ (11 - j) % 2 == 1) (fun i out hi ho => ?_) (fun out => ?_)
  · rw [hr] at this; exact this
  · rw [hr] at hi ho
    unfold impl_numbered_l1
    have e12 : ((List.replicate (12 : Int).toNat false).length : Int) = 12 := by simp
    have et : ((11 : Int) - (i : Int)).toNat = 11 - i := by omega
    have ed : ((k : Int) / 2 ^ (11 - i)) = ((k / 2 ^ (11 - i) : Nat) : Int) := by simp
    have eg : (List.range 12).getD i 0 = i := by simp [List.getD_eq_getElem?_getD, hi]
    dsimp only
    rw [e12, et, ed, eg, cdec_pos (by omega), rq_i64 (by omega) (by omega), rq_pos ⟨⟨by omega, by omega⟩, by omega⟩, rq_pos ⟨Int.natCast_nonneg _, by omega⟩, rq_pos ⟨by omega, by omega⟩, rq_i64 (by omega) (by omega)]
    rw [Int.toNat_natCast, Int.toNat_natCast, show (1 : Int).toNat = 1 from rfl, Nat.and_one_is_mod]
    congr 4
    rw [Bool.eq_iff_iff, beq_iff_eq, beq_iff_eq]
    omega
  · rw [hr]
    unfold impl_numbered_l1
    have e12 : ((List.replicate (12 : Int).toNat false).length : Int) = 12 := by simp
    dsimp only
    rw [e12, cdec_neg (by omega)]

theorem numB_bits {k : Nat} (h : k ≤ 100000) : numB k = bitsB k := by
  unfold numB
  rw [impl_numbered_bits h]
  rfl

/-! ### Problems that can be solved -/

noncomputable def openB (l : List (List (Int × Int) × Int)) : Bool := (List.range 4096).any (fun i => l.all (evalB (bitsB i)))

theorem openB_sols (l : List (List (Int × Int) × Int)) : openB l = decide (0 < solsB l) := by
  unfold openB solsB allB
  rw [Bool.eq_iff_iff, List.any_eq_true, decide_eq_true_iff, List.countP_pos_iff]
  constructor
  · rintro ⟨i, hi, hq⟩
    exact ⟨numB i, List.mem_map.2 ⟨i, hi, rfl⟩, by rw [numB_bits (by have := List.mem_range.1 hi; omega)]; exact hq⟩
  · rintro ⟨v, hv, hq⟩
    obtain ⟨i, hi, rfl⟩ := List.mem_map.1 hv
    exact ⟨i, hi, by rw [numB_bits (by have := List.mem_range.1 hi; omega)] at hq; exact hq⟩

/-- Fewer constraints, more solutions. -/
theorem openB_sub {l m : List (List (Int × Int) × Int)} (h : ∀ x ∈ m, x ∈ l) (ho : openB l = true) : openB m = true := by
  unfold openB at ho ⊢
  rw [List.any_eq_true] at ho ⊢
  obtain ⟨i, hi, hq⟩ := ho
  rw [List.all_eq_true] at hq
  exact ⟨i, hi, List.all_eq_true.2 fun x hx => hq x (h x hx)⟩

/-! ### Places left out -/

def idsB (n : Nat) : List Int := (List.range n).map (fun (i : Nat) => (i : Int))
theorem idsB_len (n : Nat) : (idsB n).length = n := by simp [idsB]
theorem idsB_mem {n : Nat} {x : Int} : x ∈ idsB n ↔ 0 ≤ x ∧ x < n := by
  unfold idsB
  rw [List.mem_map]
  constructor
  · rintro ⟨i, hi, rfl⟩
    have := List.mem_range.1 hi
    omega
  · rintro ⟨h1, h2⟩
    exact ⟨x.toNat, List.mem_range.2 (by omega), by omega⟩
theorem idsB_succ (n : Nat) : idsB (n + 1) = idsB n ++ [(n : Int)] := by simp [idsB, List.range_succ]

/-- The row without the number k. -/
def outB (l : List Int) (k : Int) : List Int := l.filter (fun x => x != k)

theorem set_take_drop {α : Type} {s : List α} {i j : Nat} {x : α} (h : i < s.length) (hij : i ≤ j) : (s.set i x).take (i + 1) = s.take i ++ [x] ∧ (s.set i x).drop (j + 1) = s.drop (j + 1) := by
  constructor
  · apply List.ext_getElem?
    intro q
    rw [List.getElem?_take, List.getElem?_set]
    by_cases h1 : q < i
    · rw [if_pos (by omega), if_neg (by omega), List.getElem?_append_left (by simp; omega), List.getElem?_take, if_pos h1]
    · by_cases h2 : q = i
      · subst h2
        rw [if_pos (by omega), if_pos rfl, if_pos h, List.getElem?_append_right (by simp; omega)]
        simp [Nat.min_eq_left (Nat.le_of_lt h)]
      · rw [if_neg (by omega), List.getElem?_eq_none]
        simp; omega
  · apply List.ext_getElem?
    intro q
    rw [List.getElem?_drop, List.getElem?_drop, List.getElem?_set, if_neg (by omega)]

theorem take_filter_snoc {α : Type} {l : List α} {p : α → Bool} {j : Nat} (d : α) (h : j < l.length) : (l.take (j + 1)).filter p = (l.take j).filter p ++ (bif p (l.getD j d) then [l.getD j d] else []) := by
  rw [take_snoc d h, List.filter_append]
  congr 1

/-- Of a row whose elements differ, the element at place i is left out. -/
theorem outB_at {l : List Int} (hn : l.Nodup) {i : Nat} (hi : i < l.length) : outB l (l.getD i 0) = l.take i ++ l.drop (i + 1) := by
  have hg : l.getD i 0 = l[i] := by rw [List.getD_eq_getElem?_getD, List.getElem?_eq_getElem hi]; rfl
  unfold outB
  rw [hg]
  generalize hx : l[i] = y
  have hl : l = l.take i ++ y :: l.drop (i + 1) := by rw [← hx, ← List.drop_eq_getElem_cons hi, List.take_append_drop]
  conv => lhs; rw [hl]
  rw [List.filter_append, List.filter_cons]
  subst hx
  have e1 : (l.take i).filter (fun x => x != l[i]) = l.take i := by
    rw [List.filter_eq_self]
    intro x hx
    obtain ⟨j, hj, rfl⟩ := List.mem_iff_getElem.1 hx
    rw [List.length_take] at hj
    rw [List.getElem_take, bne_iff_ne]
    intro e
    exact List.pairwise_iff_getElem.1 hn j i (by omega) hi (by omega) e
  have e2 : (l.drop (i + 1)).filter (fun x => x != l[i]) = l.drop (i + 1) := by
    rw [List.filter_eq_self]
    intro x hx
    obtain ⟨j, hj, rfl⟩ := List.mem_iff_getElem.1 hx
    rw [List.length_drop] at hj
    rw [List.getElem_drop, bne_iff_ne]
    intro e
    exact List.pairwise_iff_getElem.1 hn i (i + 1 + j) hi (by omega) (by omega) e.symm
  rw [e1, e2]
  simp

end Go.AE.Y
