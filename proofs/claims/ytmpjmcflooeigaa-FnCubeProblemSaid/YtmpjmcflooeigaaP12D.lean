/-
  Plain laws of the draws of cubes; FnCubeHolds' model answers true.
-/
import Derived.Test.YtmpjmcflooeigaaP12
import Derived.Test.YtmpjmcflooeigaaP17
namespace Go.AE.Y
open Go Go.AE

/-- A short list of small numbers. -/
def small (n : Nat) (l : List Int) : Prop := l.length ≤ n ∧ ∀ x ∈ l, -13 ≤ x ∧ x ≤ 13

theorem spec_l12Draw_ok {r : List Int × Int} (h : RdOk r 900000000) : ∃ k l, spec_l12Draw r = some ((r.1, k), l) ∧ r.2 ≤ k ∧ k ≤ r.2 + 10 ∧ small 6 l := by
  unfold spec_l12Draw
  have key := loop_ex (f := spec_l12Draw_l1) (fun s => 1 ≤ s.1 ∧ s.1 ≤ 6 ∧ s.2.1 = (r.1, r.2 + (s.1 - 1)) ∧ small 3 s.2.2) (fun s => (6 - s.1).toNat) (fun o => ∃ k l, o = ((r.1, k), l) ∧ r.2 ≤ k ∧ k ≤ r.2 + 10 ∧ small 6 l) ?_ ((1 : Int), r, []) ⟨by (try dsimp only) <;> omega, by (try dsimp only) <;> omega, by simp, by simp, by simp⟩
  · obtain ⟨o, h1, k, l, rfl, h2⟩ := key
    exact ⟨k, l, h1, h2⟩
  rintro ⟨v, q, out⟩ ⟨h1, h2, h3, h4⟩
  dsimp only at h1 h2 h3 h4
  subst h3
  unfold spec_l12Draw_l1
  by_cases h5 : v ≤ 5
  · left
    obtain ⟨x, k1, _⟩ := pick_ok (n := 2) (r := (r.1, r.2 + (v - 1))) (h.next (by (try dsimp only) <;> omega) (by have := h.high; omega))
    simp (disch := omega) only [cdec_pos, k1, Option.bind_some, rq_i64]
    have e : r.2 + (v - 1) + 1 = r.2 + (v + 1 - 1) := by omega
    cases hx : (x == 0) with
    | false =>
      refine ⟨_, rfl, ⟨by (try dsimp only) <;> omega, by (try dsimp only) <;> omega, by dsimp only; rw [e], h4⟩, by (try dsimp only) <;> omega⟩
    | true =>
      simp only [cond_true]
      by_cases h6 : out.length < 3
      · simp (disch := omega) only [cdec_pos]
        rw [rq_pos (by simp [bound]; omega)]
        refine ⟨_, rfl, ⟨by (try dsimp only) <;> omega, by (try dsimp only) <;> omega, by dsimp only; rw [e], by simp; omega, ?_⟩, by (try dsimp only) <;> omega⟩
        intro y hy
        rcases List.mem_append.1 hy with hy | hy
        · exact h4.2 y hy
        · rw [List.mem_singleton.1 hy]; omega
      · simp (disch := omega) only [cdec_neg]
        refine ⟨_, rfl, ⟨by (try dsimp only) <;> omega, by (try dsimp only) <;> omega, by dsimp only; rw [e], h4⟩, by (try dsimp only) <;> omega⟩
  · right
    have : v = 6 := by omega
    subst this
    have hlen := h4.1
    simp (disch := omega) only [cdec_neg]
    unfold spec_l12Draw_j1
    obtain ⟨x, k1, _⟩ := pick_ok (n := 30) (r := (r.1, r.2 + (6 - 1))) (h.next (by (try dsimp only) <;> omega) (by have := h.high; omega))
    simp only [k1, Option.bind_some]
    cases (x == 0) with
    | true =>
      obtain ⟨y, k2, k3⟩ := num_ok (l := [1, 13, 0, -2]) (r := (r.1, r.2 + (6 - 1) + 1)) (h.next (by (try dsimp only) <;> omega) (by have := h.high; omega)) (by decide)
      simp only [cond_true, k2, Option.bind_some]
      rw [rq_pos (by simp [bound]; omega)]
      refine ⟨_, rfl, _, _, rfl, by (try dsimp only) <;> omega, by (try dsimp only) <;> omega, by simp; omega, ?_⟩
      intro z hz
      rcases List.mem_append.1 hz with hz | hz
      · exact h4.2 z hz
      · rw [List.mem_singleton.1 hz]
        simp only [List.mem_cons, List.not_mem_nil, or_false] at k3
        omega
    | false =>
      cases (x == 1) with
      | true => exact ⟨_, rfl, _, _, rfl, by (try dsimp only) <;> omega, by (try dsimp only) <;> omega, by decide, by decide⟩
      | false =>
        cases (x == 2) with
        | true => exact ⟨_, rfl, _, _, rfl, by (try dsimp only) <;> omega, by (try dsimp only) <;> omega, by decide, by decide⟩
        | false => exact ⟨_, rfl, _, _, rfl, by (try dsimp only) <;> omega, by (try dsimp only) <;> omega, by omega, h4.2⟩

theorem small_set {n : Nat} {l : List Int} {i : Nat} {x : Int} (h : small n l) (hx : -13 ≤ x ∧ x ≤ 13) : small n (l.set i x) := by
  refine ⟨by rw [List.length_set]; exact h.1, fun y hy => ?_⟩
  rcases List.mem_or_eq_of_mem_set hy with hy | rfl
  · exact h.2 y hy
  · exact hx

theorem spec_l12Signed_ok {r : List Int × Int} (h : RdOk r 800000000) : ∃ k l, spec_l12Signed r = some ((r.1, k), l) ∧ r.2 ≤ k ∧ k ≤ r.2 + 20 ∧ small 6 l := by
  unfold spec_l12Signed
  obtain ⟨k0, l0, h1, h2, h3, h4⟩ := spec_l12Draw_ok (r := r) ⟨h.byte, h.len, h.low, by have := h.high; omega⟩
  rw [h1]
  simp only [Option.bind_some]
  have key := loop_ex (f := spec_l12Signed_l1) (fun s => 0 ≤ s.1 ∧ s.1 ≤ s.2.2.length ∧ s.2.1 = (r.1, k0 + s.1) ∧ small 6 s.2.2) (fun s => (s.2.2.length - s.1).toNat) (fun o => ∃ k l, o = ((r.1, k), l) ∧ r.2 ≤ k ∧ k ≤ r.2 + 20 ∧ small 6 l) ?_ ((0 : Int), (r.1, k0), l0) ⟨by (try dsimp only) <;> omega, by (try dsimp only) <;> omega, by simp, h4⟩
  · obtain ⟨o, h1, k, l, rfl, h2⟩ := key
    exact ⟨k, l, h1, h2⟩
  rintro ⟨i, q, out⟩ ⟨p1, p2, p3, p4⟩
  dsimp only at p1 p2 p3 p4
  subst p3
  have hlen := p4.1
  unfold spec_l12Signed_l1
  by_cases h5 : i < (out.length : Int)
  · left
    have hm := p4.2 _ (getD_mem (l := out) (d := 0) (i := i.toNat) (by omega))
    obtain ⟨x, k1, _⟩ := pick_ok (n := 2) (r := (r.1, k0 + i)) (h.next (by (try dsimp only) <;> omega) (by have := h.high; omega))
    simp (disch := omega) only [cdec_pos, k1, Option.bind_some, rq_i64]
    have e : k0 + i + 1 = k0 + (i + 1) := by omega
    cases hx : (x == 0) with
    | false =>
      refine ⟨_, rfl, ⟨by (try dsimp only) <;> omega, by (try dsimp only) <;> omega, by dsimp only; rw [e], p4⟩, by (try dsimp only) <;> omega⟩
    | true =>
      simp (disch := omega) only [cond_true, rq_pos]
      refine ⟨_, rfl, ⟨by (try dsimp only) <;> omega, by dsimp only; rw [List.length_set]; omega, by dsimp only; rw [e], small_set p4 (by omega)⟩, by dsimp only; rw [List.length_set]; omega⟩
  · right
    simp (disch := omega) only [cdec_neg]
    exact ⟨_, rfl, _, _, rfl, by omega, by omega, p4⟩

theorem spec_l1Values_ok {r : List Int × Int} (h : RdOk r 900000000) : ∃ k l, spec_l1Values r = some ((r.1, k), l) ∧ r.2 ≤ k ∧ k ≤ r.2 + 20 ∧ l.length ≤ 12 := by
  unfold spec_l1Values
  have key := loop_ex (f := spec_l1Values_l1) (fun s => 0 ≤ s.1 ∧ s.1 ≤ 12 ∧ s.2.1 = (r.1, r.2 + s.1) ∧ (s.2.2.length : Int) = s.1) (fun s => (12 - s.1).toNat) (fun o => ∃ k l, o = ((r.1, k), l) ∧ r.2 ≤ k ∧ k ≤ r.2 + 20 ∧ l.length ≤ 12) ?_ ((0 : Int), r, []) ⟨by (try dsimp only) <;> omega, by (try dsimp only) <;> omega, by simp, by simp⟩
  · obtain ⟨o, h1, k, l, rfl, h2⟩ := key
    exact ⟨k, l, h1, h2⟩
  rintro ⟨i, q, out⟩ ⟨p1, p2, p3, p4⟩
  dsimp only at p1 p2 p3 p4
  subst p3
  unfold spec_l1Values_l1
  by_cases h5 : i < 12
  · left
    obtain ⟨x, k1, _⟩ := pick_ok (n := 2) (r := (r.1, r.2 + i)) (h.next (by have := h.low; omega) (by have := h.high; omega))
    simp (disch := omega) only [cdec_pos, k1, Option.bind_some, rq_i64]
    rw [rq_pos (by simp [bound]; omega)]
    refine ⟨_, rfl, ⟨by (try dsimp only) <;> omega, by (try dsimp only) <;> omega, by dsimp only; rw [show r.2 + i + 1 = r.2 + (i + 1) by omega], by simp; omega⟩, by (try dsimp only) <;> omega⟩
  · right
    have : i = 12 := by omega
    subst this
    simp (disch := omega) only [cdec_neg]
    unfold spec_l1Values_j1
    obtain ⟨x, k1, _⟩ := pick_ok (n := 40) (r := (r.1, r.2 + 12)) (h.next (by (try dsimp only) <;> omega) (by have := h.high; omega))
    simp only [k1, Option.bind_some]
    cases (x == 0) with
    | true =>
      simp (disch := omega) only [cond_true, rq_pos]
      exact ⟨_, rfl, _, _, rfl, by (try dsimp only) <;> omega, by (try dsimp only) <;> omega, by simp; omega⟩
    | false => exact ⟨_, rfl, _, _, rfl, by (try dsimp only) <;> omega, by (try dsimp only) <;> omega, by omega⟩

theorem spec_DrawCubeHolds_ok {a : List Int} (h : ∀ x ∈ a, 0 ≤ x ∧ x ≤ 255) : ∃ c v, spec_DrawCubeHolds a = some (c, v) ∧ small 6 c ∧ v.length ≤ 12 := by
  unfold spec_DrawCubeHolds
  obtain ⟨r, h1, h2⟩ := open_ok h
  rw [h1]
  simp only [Option.bind_some]
  have hr0 : r.2 = 0 := by have := h2.low; have := h2.high; omega
  obtain ⟨k, c, h3, h4, h5, h6⟩ := spec_l12Signed_ok (r := r) ⟨h2.byte, h2.len, h2.low, by omega⟩
  rw [h3]
  simp only [Option.bind_some]
  obtain ⟨k', v, h7, h8, h9, h10⟩ := spec_l1Values_ok (r := (r.1, k)) ⟨h2.byte, h2.len, by (try dsimp only) <;> omega, by (try dsimp only) <;> omega⟩
  dsimp only at h8 h9
  rw [h7]
  simp only [Option.bind_some]
  have key := loop_ex (f := spec_DrawCubeHolds_l1 ((r.1, k), c)) (fun s => 0 ≤ s.1 ∧ s.1 ≤ c.length ∧ s.2.1 = (r.1, k' + s.1) ∧ s.2.2.length ≤ 12) (fun s => (c.length - s.1).toNat) (fun o => ∃ v, o = (c, v) ∧ v.length ≤ 12) ?_ ((0 : Int), (r.1, k'), v) ⟨by (try dsimp only) <;> omega, by (try dsimp only) <;> omega, by simp, h10⟩
  · obtain ⟨o, q1, v, rfl, q2⟩ := key
    exact ⟨c, v, q1, h6, q2⟩
  rintro ⟨i, q, vs⟩ ⟨p1, p2, p3, p4⟩
  dsimp only at p1 p2 p3 p4
  subst p3
  have hlen := h6.1
  unfold spec_DrawCubeHolds_l1 spec_DrawCubeHolds_j1
  by_cases h5 : i < (c.length : Int)
  · have hm := h6.2 _ (getD_mem (l := c) (d := 0) (i := i.toNat) (by omega))
    obtain ⟨x, k1, _⟩ := pick_ok (n := 6) (r := (r.1, k' + i)) ⟨h2.byte, h2.len, by (try dsimp only) <;> omega, by (try dsimp only) <;> omega⟩
    simp (disch := omega) only [cdec_pos, k1, Option.bind_some, rq_i64]
    by_cases hx : 0 < x
    · left
      have ev : 0 ≤ vof (c.getD i.toNat 0) ∧ vof (c.getD i.toNat 0) ≤ 13 := by unfold vof; omega
      simp (disch := omega) only [cdec_pos, rq_pos, spec_l1Abs_eq, Option.bind_some, rq_i64]
      by_cases h6 : 1 ≤ vof (c.getD i.toNat 0)
      · simp (disch := omega) only [cdec_pos]
        by_cases h7 : vof (c.getD i.toNat 0) ≤ (vs.length : Int)
        · simp (disch := omega) only [cdec_pos, rq_pos]
          refine ⟨_, rfl, ⟨by (try dsimp only) <;> omega, by (try dsimp only) <;> omega, by dsimp only; rw [show k' + i + 1 = k' + (i + 1) by omega], by simp; omega⟩, by (try dsimp only) <;> omega⟩
        · simp (disch := omega) only [cdec_neg]
          refine ⟨_, rfl, ⟨by (try dsimp only) <;> omega, by (try dsimp only) <;> omega, by dsimp only; rw [show k' + i + 1 = k' + (i + 1) by omega], by omega⟩, by (try dsimp only) <;> omega⟩
      · simp (disch := omega) only [cdec_neg]
        refine ⟨_, rfl, ⟨by (try dsimp only) <;> omega, by (try dsimp only) <;> omega, by dsimp only; rw [show k' + i + 1 = k' + (i + 1) by omega], by omega⟩, by (try dsimp only) <;> omega⟩
    · right
      simp (disch := omega) only [cdec_neg]
      exact ⟨_, rfl, _, rfl, p4⟩
  · right
    simp (disch := omega) only [cdec_neg]
    exact ⟨_, rfl, _, rfl, p4⟩

end Go.AE.Y
