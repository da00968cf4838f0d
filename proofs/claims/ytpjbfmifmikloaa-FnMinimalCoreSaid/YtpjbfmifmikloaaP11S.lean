/-
  Plain laws: parts of a problem.
-/
import Derived.Test.YtpjbfmifmikloaaP12C
namespace Go.AE.Y
open Go Go.AE

/-- Ascending places below n. -/
def keepAt (c : List Int) (n : Int) (i : Nat) : Bool := (decide (0 ≤ c.getD i 0) && decide (c.getD i 0 < n)) && (i == 0 || decide (c.getD (i - 1) 0 < c.getD i 0))
def keepB (c : List Int) (n : Int) : Bool := (List.range c.length).all (keepAt c n)

theorem impl_isPart_eq (c : List Int) (n : Int) (h : c.length ≤ 4000000000) (hn : 0 ≤ n ∧ n ≤ 4000000000) : impl_isPart c n = some (keepB c n) := by
  unfold impl_isPart keepB
  rw [loop_all c.length (keepAt c n) false true]
  · cases (List.range c.length).all (keepAt c n) <;> rfl
  · intro i hi hpre
    unfold impl_isPart_l1 keepAt
    simp (disch := omega) only [cdec_pos, rq_pos, rq_i64, Int.toNat_natCast]
    rw [impl_within_eq, bind_s, show decide (c.getD i 0 ≤ n - 1) = decide (c.getD i 0 < n) from decide_eq_decide.2 (by omega)]
    cases hw : (decide (0 ≤ c.getD i 0) && decide (c.getD i 0 < n)) with
    | false => rw [cnf, Bool.false_and, cff]
    | true =>
      rw [cnt, Bool.true_and]
      by_cases h0 : i = 0
      · rw [cdec_neg (by omega), show (i == 0) = true by simpa using h0, Bool.true_or, ctt]
      · have e1 : ((i : Int) - 1).toNat = i - 1 := by omega
        rw [show (i == 0) = false by simpa using h0, Bool.false_or]
        simp (disch := omega) only [cdec_pos, rq_i64, rq_pos, e1]
        by_cases hv : c.getD (i - 1) 0 < c.getD i 0
        · rw [cdec_neg (by omega), decide_eq_true hv, ctt]
        · rw [cdec_pos (by omega), decide_eq_false hv, cff]
  · unfold impl_isPart_l1
    simp (disch := omega) only [cdec_neg]

theorem keepB_in {c : List Int} {n : Int} (h : keepB c n = true) : ∀ i, i < c.length → 0 ≤ c.getD i 0 ∧ c.getD i 0 < n := by
  intro i hi
  unfold keepB at h
  have := List.all_eq_true.1 h i (List.mem_range.2 hi)
  unfold keepAt at this
  simp only [Bool.and_eq_true, decide_eq_true_eq] at this
  exact this.1

/-- The part. -/
def partB (a : List (List (Int × Int) × Int)) (c : List Int) : List (List (Int × Int) × Int) := c.map (fun i => a.getD i.toNat ([], 0))

theorem partB_small {a : List (List (Int × Int) × Int)} {c : List Int} (h : smallC a) (hc : c.length ≤ 1048576) (hk : ∀ i, i < c.length → 0 ≤ c.getD i 0 ∧ c.getD i 0 < a.length) : smallC (partB a c) := by
  refine ⟨by simp [partB]; omega, fun x hx => ?_⟩
  obtain ⟨n, hn, rfl⟩ := List.mem_map.1 hx
  obtain ⟨i, hi, rfl⟩ := List.mem_iff_getElem.1 hn
  have := hk i hi
  have e : c.getD i 0 = c[i] := by rw [List.getD_eq_getElem?_getD, List.getElem?_eq_getElem hi]; rfl
  rw [e] at this
  exact h.2 _ (getD_mem (by omega))

theorem spec_l11Sub_eq (a : List (List (Int × Int) × Int)) (c : List Int) (h : smallC a) (hc : c.length ≤ 1048576) (hk : ∀ i, i < c.length → 0 ≤ c.getD i 0 ∧ c.getD i 0 < a.length) : spec_l11Sub a c = some (partB a c) := by
  have h1 := h.1
  unfold spec_l11Sub
  refine (loop_push_map (f := spec_l11Sub_l1 a c) c 0 (fun i => a.getD i.toNat ([], 0)) [] id (fun i out hi ho => ?_) ?_).trans (by simp [partB])
  · have hk1 := hk i hi
    have h2 := h.2 _ (getD_mem (l := a) (i := (c.getD i 0).toNat) (d := ([], 0)) (by omega))
    have ho : out.length = i := by simpa using ho
    unfold spec_l11Sub_l1
    simp (disch := omega) only [cdec_pos, rq_pos, Int.toNat_natCast]
    rw [l1Copy_eq _ (by omega), bind_s]
    rw [rq_pos (by simp [bound]; omega), rq_i64 (by omega) (by omega)]
  · unfold spec_l11Sub_l1
    simp (disch := omega) only [cdec_neg]
    rfl

theorem impl_partOf_eq (a : List (List (Int × Int) × Int)) (c : List Int) (h : smallC a) (hc : c.length ≤ 1048576) (hk : ∀ i, i < c.length → 0 ≤ c.getD i 0 ∧ c.getD i 0 < a.length) : impl_partOf a c = some (partB a c) := by
  have h1 := h.1
  unfold impl_partOf
  refine (loop_push_map (f := impl_partOf_l1 a c) c 0 (fun i => a.getD i.toNat ([], 0)) [] id (fun i out hi ho => ?_) ?_).trans (by simp [partB])
  · have hk1 := hk i hi
    have ho : out.length = i := by simpa using ho
    unfold impl_partOf_l1
    simp (disch := omega) only [cdec_pos, rq_pos, Int.toNat_natCast]
    rw [rq_pos (by simp [bound]; omega), rq_i64 (by omega) (by omega)]
  · unfold impl_partOf_l1
    simp (disch := omega) only [cdec_neg]
    rfl

theorem impl_partOf__s_eq (a : List (List (Int × Int) × Int)) (c : List Int) (h : smallC a) (hc : c.length ≤ 1048576) (hk : ∀ i, i < c.length → 0 ≤ c.getD i 0 ∧ c.getD i 0 < a.length) : impl_partOf__s a c = some (partB a c) := by
  have h1 := h.1
  unfold impl_partOf__s
  refine (loop_push_map (f := impl_partOf__s_l1 a c) c 0 (fun i => a.getD i.toNat ([], 0)) [] id (fun i out hi ho => ?_) ?_).trans (by simp [partB])
  · have hk1 := hk i hi
    have ho : out.length = i := by simpa using ho
    unfold impl_partOf__s_l1
    simp (disch := omega) only [cdec_pos, rq_pos, Int.toNat_natCast]
    rw [rq_pos (by simp [bound]; omega), rq_i64 (by omega) (by omega)]
  · unfold impl_partOf__s_l1
    simp (disch := omega) only [cdec_neg]
    rfl

def subProbB (a : List (List (Int × Int) × Int)) (c : List Int) : Bool × List (List (Int × Int) × Int) := bif probB a && keepB c a.length then (true, partB a c) else (false, [])

theorem impl_SubProblem_eq (a : List (List (Int × Int) × Int)) (c : List Int) (h : smallC a) (hc : c.length ≤ 1048576) : impl_SubProblem a c = some (subProbB a c) := by
  have h1 := h.1
  unfold impl_SubProblem subProbB
  rw [impl_ProblemValid_eq a h, bind_s]
  cases probB a with
  | false => rw [cnf, Bool.false_and, cff]
  | true =>
    rw [cnt, impl_isPart_eq c _ (by omega) ⟨by omega, by omega⟩, bind_s, Bool.true_and]
    cases hk : keepB c a.length with
    | false => rw [cnf, cff]
    | true => rw [cnt, ctt, impl_partOf_eq a c h hc (keepB_in hk), bind_s, ownAll_eq _ (partB_small h hc (keepB_in hk)), bind_s]

theorem subProbB_small {a : List (List (Int × Int) × Int)} {c : List Int} (h : smallC a) (hc : c.length ≤ 1048576) : smallC (subProbB a c).2 := by
  unfold subProbB
  cases hq : (probB a && keepB c a.length) with
  | false => exact ⟨by simp, fun x hx => by simp at hx⟩
  | true =>
    simp only [Bool.and_eq_true] at hq
    rw [ctt]
    exact partB_small h hc (keepB_in hq.2)

end Go.AE.Y
