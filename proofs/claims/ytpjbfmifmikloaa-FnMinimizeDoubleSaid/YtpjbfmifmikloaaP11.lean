/-
  Plain laws: copies, sizes and comparisons of the laws' own helpers; valid problems; violations.
-/
import Derived.Test.YtpjbfmifmikloaaP12
import Derived.Test.YtpjbfmifmikloaaAERow
namespace Go.AE.Y
open Go Go.AE

/-! ### Copies, sizes, comparisons -/

/-- Rows of terms that are not too long. -/
def smallC (a : List (List (Int × Int) × Int)) : Prop := a.length ≤ 1048576 ∧ ∀ x ∈ a, x.1.length ≤ 1048576

/-! ### Valid problems -/

/-- A term and what stands before it. -/
def termAt (c : List (Int × Int)) (i : Nat) : Bool :=
  isLit (c.getD i (0, 0)).2 && ((decide (1 ≤ (c.getD i (0, 0)).1) && decide ((c.getD i (0, 0)).1 ≤ 1000)) && (i == 0 || decide (vof (c.getD (i - 1) (0, 0)).2 < vof (c.getD i (0, 0)).2)))
def conB (c : List (Int × Int) × Int) : Bool := (List.range c.1.length).all (termAt c.1) && (decide (0 ≤ c.2) && decide (c.2 ≤ 20000))

theorem termAt_lit {c : List (Int × Int)} {i : Nat} (h : termAt c i = true) : isLit (c.getD i (0, 0)).2 = true := by
  unfold termAt at h; simp only [Bool.and_eq_true] at h; exact h.1

theorem impl_within_eq (n a b : Int) : impl_within n a b = some (decide (a ≤ n) && decide (n ≤ b)) := by
  unfold impl_within
  by_cases h : a ≤ n
  · rw [cdec_pos h, decide_eq_true h]; simp
  · rw [cdec_neg h, decide_eq_false h]; simp

/-- A valid problem. -/
def probB (l : List (List (Int × Int) × Int)) : Bool := l.all conB && decide (l.length ≤ 400)

/-! ### Violations -/

/-- What a constraint's terms come to. -/
def sumB (v : List Bool) (c : List (Int × Int)) : Int := c.foldl (fun a t => bif litB v t.2 then a + t.1 else a) 0
def evalB (v : List Bool) (c : List (Int × Int) × Int) : Bool := decide (c.2 ≤ sumB v c.1)

theorem conB_terms {c : List (Int × Int) × Int} (h : conB c = true) : ∀ i, i < c.1.length → ((c.1.getD i (0, 0)).2 ≠ 0 ∧ -12 ≤ (c.1.getD i (0, 0)).2 ∧ (c.1.getD i (0, 0)).2 ≤ 12) ∧ 1 ≤ (c.1.getD i (0, 0)).1 ∧ (c.1.getD i (0, 0)).1 ≤ 1000 := by
  intro i hi
  unfold conB at h
  simp only [Bool.and_eq_true, List.all_eq_true] at h
  have h1 := h.1 i (List.mem_range.2 hi)
  refine ⟨isLit_iff.1 (termAt_lit h1), ?_⟩
  unfold termAt at h1
  simp only [Bool.and_eq_true, decide_eq_true_eq] at h1
  exact h1.2.1

/-- How many constraints fail. -/
def badB (v : List Bool) (l : List (List (Int × Int) × Int)) : Int := l.foldl (fun a c => bif evalB v c then a else a + 1) 0

theorem probB_all {l : List (List (Int × Int) × Int)} (h : probB l = true) : ∀ x ∈ l, conB x = true := by
  unfold probB at h
  simp only [Bool.and_eq_true, List.all_eq_true] at h
  exact h.1

def violB (l : List (List (Int × Int) × Int)) (v : List Bool) : Int × Bool := bif probB l && decide (v.length = 12) then (badB v l, true) else (0, false)

end Go.AE.Y
