/-
  Plain laws of lists that walks meet.
-/
import Derived.Test.YtkipgkpekkjebaaAETab
namespace Go.AE

theorem copy_step {α : Type} (l : List α) (z d : α) {i : Nat} (h : i < l.length) : (l.take i ++ List.replicate (l.length - i) z).set i (l.getD i d) = l.take (i + 1) ++ List.replicate (l.length - (i + 1)) z := by
  have e : List.replicate (l.length - i) z = z :: List.replicate (l.length - (i + 1)) z := by
    rw [show l.length - i = (l.length - (i + 1)) + 1 by omega, List.replicate_succ]
  have hl : (l.take i).length = i := by simp; omega
  rw [e, List.set_append, if_neg (by omega), hl, Nat.sub_self, List.set_cons_zero, List.take_succ_eq_append_getElem h, getD_at h, List.append_assoc]
  rfl

theorem take_all {α : Type} (l : List α) (z : α) {i : Nat} (h : l.length ≤ i) : l.take i ++ List.replicate (l.length - i) z = l := by
  rw [List.take_of_length_le h, show l.length - i = 0 by omega]
  simp

/-- All of the first n. -/
def allN (n : Nat) (p : Nat → Bool) : Bool := (List.range n).all p

theorem allN_true {n : Nat} {p : Nat → Bool} (h : ∀ j, j < n → p j = true) : allN n p = true := by
  unfold allN
  rw [List.all_eq_true]
  intro j hj
  exact h j (List.mem_range.1 hj)

theorem allN_false {n : Nat} {p : Nat → Bool} (i : Nat) (hi : i < n) (h : p i = false) : allN n p = false := by
  unfold allN
  rw [List.all_eq_false]
  exact ⟨i, List.mem_range.2 hi, by simp [h]⟩

theorem allN_iff {n : Nat} {p : Nat → Bool} : allN n p = true ↔ ∀ j, j < n → p j = true := by
  unfold allN
  rw [List.all_eq_true]
  exact ⟨fun h j hj => h j (List.mem_range.2 hj), fun h j hj => h j (List.mem_range.1 hj)⟩

theorem allN_congr {n : Nat} {p q : Nat → Bool} (h : ∀ j, j < n → p j = q j) : allN n p = allN n q := by
  rw [Bool.eq_iff_iff, allN_iff, allN_iff]
  exact ⟨fun a j hj => by rw [← h j hj]; exact a j hj, fun a j hj => by rw [h j hj]; exact a j hj⟩

/-- The place of the first that p holds of; -1 where there is none. -/
def idx (n : Nat) (p : Nat → Bool) : Int := match (List.range n).find? p with | some i => i | none => -1

theorem idx_none {n : Nat} {p : Nat → Bool} (h : ∀ j, j < n → p j = false) : idx n p = -1 := by
  unfold idx
  rw [List.find?_eq_none.2 (fun j hj => by simp [h j (List.mem_range.1 hj)])]

theorem idx_some {n i : Nat} {p : Nat → Bool} (hi : i < n) (h : p i = true) (h' : ∀ j, j < i → p j = false) : idx n p = i := by
  unfold idx
  have : (List.range n).find? p = some i := List.find?_range_eq_some.2 ⟨h, List.mem_range.2 hi, fun j hj => by simp [h' j hj]⟩
  rw [this]

theorem idx_nonneg {n : Nat} {p : Nat → Bool} : decide (0 ≤ idx n p) = !allN n (fun j => !p j) := by
  cases ha : allN n (fun j => !p j) with
  | true =>
    rw [idx_none (fun j hj => by have := allN_iff.1 ha j hj; simpa using this)]
    rfl
  | false =>
    unfold idx
    cases hf : (List.range n).find? p with
    | none =>
      exfalso
      rw [List.find?_eq_none] at hf
      rw [allN_true (fun j hj => by have := hf j (List.mem_range.2 hj); simpa using this)] at ha
      cases ha
    | some i => simp

end Go.AE
