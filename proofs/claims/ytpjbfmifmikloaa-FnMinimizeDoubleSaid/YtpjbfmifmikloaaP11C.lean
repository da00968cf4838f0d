/-
  Plain laws: assignments by number; problems that can be solved; minimal cores and maximal parts.
-/
import Derived.Test.YtpjbfmifmikloaaP12K
import Derived.Test.YtpjbfmifmikloaaP11S
namespace Go.AE.Y
open Go Go.AE

/-! ### Assignments by number, both ways -/

theorem rep_get (n i : Nat) : (List.replicate n false).getD i false = false := by
  rw [List.getD_eq_getElem?_getD, List.getElem?_replicate]
  split <;> rfl

def bitsB (k : Nat) : List Bool := (List.range 12).map (fun j => k / 2 ^ (11 - j) % 2 == 1)
theorem bitsB_len (k : Nat) : (bitsB k).length = 12 := by simp [bitsB]
theorem bitsB_get {k j : Nat} (h : j < 12) : (bitsB k).getD j false = (k / 2 ^ (11 - j) % 2 == 1) := by
  unfold bitsB
  rw [getD_map (d := 0) (h := by simpa using h)]
  simp [List.getD_eq_getElem?_getD, h]

/-! ### Problems that can be solved -/

noncomputable def openB (l : List (List (Int × Int) × Int)) : Bool := (List.range 4096).any (fun i => l.all (evalB (bitsB i)))

/-- Fewer constraints, more solutions. -/
theorem openB_sub {l m : List (List (Int × Int) × Int)} (h : ∀ x ∈ m, x ∈ l) (ho : openB l = true) : openB m = true := by
  unfold openB at ho ⊢
  rw [List.any_eq_true] at ho ⊢
  obtain ⟨i, hi, hq⟩ := ho
  rw [List.all_eq_true] at hq
  exact ⟨i, hi, List.all_eq_true.2 fun x hx => hq x (h x hx)⟩

/-! ### Places left out -/

def idsB (n : Nat) : List Int := (List.range n).map (fun (i : Nat) => (i : Int))
theorem idsB_len (n : Nat) : (idsB n).length = n := by simp [idsB]
theorem idsB_mem {n : Nat} {x : Int} : x ∈ idsB n ↔ 0 ≤ x ∧ x < n := by
  unfold idsB
  rw [List.mem_map]
  constructor
  · rintro ⟨i, hi, rfl⟩
    have := List.mem_range.1 hi
    omega
  · rintro ⟨h1, h2⟩
    exact ⟨x.toNat, List.mem_range.2 (by omega), by omega⟩
theorem idsB_succ (n : Nat) : idsB (n + 1) = idsB n ++ [(n : Int)] := by simp [idsB, List.range_succ]

/-- The row without the number k. -/
def outB (l : List Int) (k : Int) : List Int := l.filter (fun x => x != k)

theorem set_take_drop {α : Type} {s : List α} {i j : Nat} {x : α} (h : i < s.length) (hij : i ≤ j) : (s.set i x).take (i + 1) = s.take i ++ [x] ∧ (s.set i x).drop (j + 1) = s.drop (j + 1) := by
  constructor
  · apply List.ext_getElem?
    intro q
    rw [List.getElem?_take, List.getElem?_set]
    by_cases h1 : q < i
    · rw [if_pos (by omega), if_neg (by omega), List.getElem?_append_left (by simp; omega), List.getElem?_take, if_pos h1]
    · by_cases h2 : q = i
      · subst h2
        rw [if_pos (by omega), if_pos rfl, if_pos h, List.getElem?_append_right (by simp; omega)]
        simp [Nat.min_eq_left (Nat.le_of_lt h)]
      · rw [if_neg (by omega), List.getElem?_eq_none]
        simp; omega
  · apply List.ext_getElem?
    intro q
    rw [List.getElem?_drop, List.getElem?_drop, List.getElem?_set, if_neg (by omega)]

theorem take_filter_snoc {α : Type} {l : List α} {p : α → Bool} {j : Nat} (d : α) (h : j < l.length) : (l.take (j + 1)).filter p = (l.take j).filter p ++ (bif p (l.getD j d) then [l.getD j d] else []) := by
  rw [take_snoc d h, List.filter_append]
  congr 1

/-- Of a row whose elements differ, the element at place i is left out. -/
theorem outB_at {l : List Int} (hn : l.Nodup) {i : Nat} (hi : i < l.length) : outB l (l.getD i 0) = l.take i ++ l.drop (i + 1) := by
  have hg : l.getD i 0 = l[i] := by rw [List.getD_eq_getElem?_getD, List.getElem?_eq_getElem hi]; rfl
  unfold outB
  rw [hg]
  generalize hx : l[i] = y
  have hl : l = l.take i ++ y :: l.drop (i + 1) := by rw [← hx, ← List.drop_eq_getElem_cons hi, List.take_append_drop]
  conv => lhs; rw [hl]
  rw [List.filter_append, List.filter_cons]
  subst hx
  have e1 : (l.take i).filter (fun x => x != l[i]) = l.take i := by
    rw [List.filter_eq_self]
    intro x hx
    obtain ⟨j, hj, rfl⟩ := List.mem_iff_getElem.1 hx
    rw [List.length_take] at hj
    rw [List.getElem_take, bne_iff_ne]
    intro e
    exact List.pairwise_iff_getElem.1 hn j i (by omega) hi (by omega) e
  have e2 : (l.drop (i + 1)).filter (fun x => x != l[i]) = l.drop (i + 1) := by
    rw [List.filter_eq_self]
    intro x hx
    obtain ⟨j, hj, rfl⟩ := List.mem_iff_getElem.1 hx
    rw [List.length_drop] at hj
    rw [List.getElem_drop, bne_iff_ne]
    intro e
    exact List.pairwise_iff_getElem.1 hn i (i + 1 + j) hi (by omega) (by omega) e.symm
  rw [e1, e2]
  simp

end Go.AE.Y
