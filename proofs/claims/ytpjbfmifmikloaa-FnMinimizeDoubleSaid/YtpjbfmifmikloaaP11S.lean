/-
  Plain laws: parts of a problem.
-/
import Derived.Test.YtpjbfmifmikloaaP12C
namespace Go.AE.Y
open Go Go.AE

/-- Ascending places below n. -/
def keepAt (c : List Int) (n : Int) (i : Nat) : Bool := (decide (0 ≤ c.getD i 0) && decide (c.getD i 0 < n)) && (i == 0 || decide (c.getD (i - 1) 0 < c.getD i 0))
def keepB (c : List Int) (n : Int) : Bool := (List.range c.length).all (keepAt c n)

theorem keepB_in {c : List Int} {n : Int} (h : keepB c n = true) : ∀ i, i < c.length → 0 ≤ c.getD i 0 ∧ c.getD i 0 < n := by
  intro i hi
  unfold keepB at h
  have := List.all_eq_true.1 h i (List.mem_range.2 hi)
  unfold keepAt at this
  simp only [Bool.and_eq_true, decide_eq_true_eq] at this
  exact this.1

/-- The part. -/
def partB (a : List (List (Int × Int) × Int)) (c : List Int) : List (List (Int × Int) × Int) := c.map (fun i => a.getD i.toNat ([], 0))

theorem partB_small {a : List (List (Int × Int) × Int)} {c : List Int} (h : smallC a) (hc : c.length ≤ 1048576) (hk : ∀ i, i < c.length → 0 ≤ c.getD i 0 ∧ c.getD i 0 < a.length) : smallC (partB a c) := by
  refine ⟨by simp [partB]; omega, fun x hx => ?_⟩
  obtain ⟨n, hn, rfl⟩ := List.mem_map.1 hx
  obtain ⟨i, hi, rfl⟩ := List.mem_iff_getElem.1 hn
  have := hk i hi
  have e : c.getD i 0 = c[i] := by rw [List.getD_eq_getElem?_getD, List.getElem?_eq_getElem hi]; rfl
  rw [e] at this
  exact h.2 _ (getD_mem (by omega))

def subProbB (a : List (List (Int × Int) × Int)) (c : List Int) : Bool × List (List (Int × Int) × Int) := bif probB a && keepB c a.length then (true, partB a c) else (false, [])

theorem subProbB_small {a : List (List (Int × Int) × Int)} {c : List Int} (h : smallC a) (hc : c.length ≤ 1048576) : smallC (subProbB a c).2 := by
  unfold subProbB
  cases hq : (probB a && keepB c a.length) with
  | false => exact ⟨by simp, fun x hx => by simp at hx⟩
  | true =>
    simp only [Bool.and_eq_true] at hq
    rw [ctt]
    exact partB_small h hc (keepB_in hq.2)

end Go.AE.Y
