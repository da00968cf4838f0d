/-
  Plain laws: domains of models.
-/
import Derived.Test.YtpjbfmifmikloaaP8X
import Derived.Test.YtpjbfmifmikloaaP9
namespace Go.AE.Y
open Go Go.AE

def fitAt (m : ModT) (d : List (List Bool)) (i : Nat) : Bool := decide (((d.getD i []).length : Int) = m.1.getD i 0 + 1)
def fitsB (m : ModT) (d : List (List Bool)) : Bool := decide (d.length = m.1.length) && (List.range d.length).all (fitAt m d)
def domB (m : ModT) (d : List (List Bool)) : Bool := modB m && fitsB m d
def noneB (row : List Bool) : Bool := !row.any (fun b => true == b)
def emptyB (d : List (List Bool)) : Bool := d.any noneB
def inAt (d : List (List Bool)) (x : List Int) (i : Nat) : Bool := (d.getD i []).getD (x.getD i 0).toNat false
def inB (d : List (List Bool)) (x : List Int) : Bool := (List.range x.length).all (inAt d x)
def smallD (d : List (List Bool)) : Prop := d.length ≤ 1048576 ∧ ∀ x ∈ d, x.length ≤ 1048576

theorem modB_size {m : ModT} (hm : modB m = true) {i : Nat} (hi : i < m.1.length) : 0 ≤ m.1.getD i 0 ∧ m.1.getD i 0 ≤ 3 := by
  unfold modB at hm
  simp only [Bool.and_eq_true, decide_eq_true_eq, List.all_eq_true] at hm
  have h2 := hm.2.2.1 _ (getD_mem (l := m.1) (i := i) (d := 0) hi)
  unfold cellB at h2
  simp only [Bool.and_eq_true, decide_eq_true_eq] at h2
  omega

theorem any_snoc (l : List Bool) {k : Nat} (h : k < l.length) : (l.take (k + 1)).any (fun b => true == b) = ((l.take k).any (fun b => true == b) || l.getD k false) := by
  rw [List.take_add_one, List.getD_eq_getElem?_getD, List.getElem?_eq_getElem h, List.any_append]
  simp only [Option.toList_some, List.any_cons, List.any_nil, Bool.or_false, Option.getD_some]
  cases l[k] <;> rfl

/-! ### Cells in domains -/

theorem domB_row {m : ModT} {d : List (List Bool)} (h : domB m d = true) : modB m = true ∧ d.length = m.1.length ∧ ∀ i, i < d.length → ((d.getD i []).length : Int) = m.1.getD i 0 + 1 := by
  unfold domB fitsB fitAt at h
  simp only [Bool.and_eq_true, decide_eq_true_eq, List.all_eq_true] at h
  exact ⟨h.1, h.2.1, fun i hi => h.2.2 i (List.mem_range.2 hi)⟩

theorem cellsB_at {m : ModT} {x : List Int} (h : cellsB m x = true) : x.length = m.1.length ∧ ∀ i, i < x.length → 0 ≤ x.getD i 0 ∧ x.getD i 0 ≤ m.1.getD i 0 := by
  unfold cellsB cellAt at h
  simp only [Bool.and_eq_true, decide_eq_true_eq, List.all_eq_true] at h
  exact ⟨h.1, fun i hi => h.2 i (List.mem_range.2 hi)⟩

def cellsInB (m : ModT) (d : List (List Bool)) (x : List Int) : Bool := domB m d && (cellsB m x && inB d x)

/-! ### The laws -/

@[reducible] def tyDom : Ty := .sl (.sl .bool)

end Go.AE.Y
