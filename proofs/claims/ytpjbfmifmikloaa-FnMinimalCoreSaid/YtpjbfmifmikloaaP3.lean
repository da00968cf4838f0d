/-
  Plain laws of the draws of problems.
-/
import Derived.Test.YtpjbfmifmikloaaP12D
import Derived.Test.YtpjbfmifmikloaaPX
namespace Go.AE.Y
open Go Go.AE

/-- The reader has gone on by at most c. -/
def Adv (r r' : List Int × Int) (c : Int) : Prop := r'.1 = r.1 ∧ r.2 ≤ r'.2 ∧ r'.2 ≤ r.2 + c

theorem Adv.ok {r r' : List Int × Int} {m m' c : Int} (h : RdOk r m) (a : Adv r r' c) (hm : m + c ≤ m') : RdOk r' m' := by
  obtain ⟨a1, a2, a3⟩ := a
  have := h.low
  have := h.high
  exact ⟨by rw [a1]; exact h.byte, by rw [a1]; exact h.len, by omega, by omega⟩
theorem Adv.refl (r : List Int × Int) {c : Int} (h : 0 ≤ c) : Adv r r c := ⟨rfl, Int.le_refl _, by omega⟩
theorem Adv.trans {r r' r'' : List Int × Int} {c c' d : Int} (a : Adv r r' c) (b : Adv r' r'' c') (h : c + c' ≤ d) : Adv r r'' d := by
  obtain ⟨a1, a2, a3⟩ := a
  obtain ⟨b1, b2, b3⟩ := b
  exact ⟨b1.trans a1, by omega, by omega⟩

theorem pick_adv {r : List Int × Int} (n : Int) (h : RdOk r 1000000000) : ∃ x r', spec_l17Rd_pick n r = some (x, r') ∧ Adv r r' 1 ∧ 0 ≤ x ∧ (1 ≤ n → x < n) := by
  obtain ⟨x, h1, h2, h3, _⟩ := pick_ok (n := n) h
  exact ⟨x, _, h1, ⟨rfl, by (try dsimp only) <;> omega, by (try dsimp only) <;> omega⟩, h2, h3⟩
theorem num_adv {l : List Int} {r : List Int × Int} (h : RdOk r 1000000000) (hl : 1 ≤ l.length) : ∃ x r', spec_l17Rd_num l r = some (x, r') ∧ Adv r r' 1 ∧ x ∈ l := by
  obtain ⟨x, h1, h2⟩ := num_ok h hl
  exact ⟨x, _, h1, ⟨rfl, by (try dsimp only) <;> omega, by (try dsimp only) <;> omega⟩, h2⟩

theorem spec_l1Total_ok {c : List (Int × Int)} {n : Nat} (hl : c.length ≤ n) (hn : n ≤ 1000) (hc : ∀ t ∈ c, 0 ≤ t.1 ∧ t.1 ≤ 5) (b : Int) : ∃ s, spec_l1Total (c, b) = some s ∧ 0 ≤ s ∧ s ≤ 5000 := by
  unfold spec_l1Total
  refine loop_ex (fun s : Int × Int => ∃ i : Nat, s.2 = i ∧ i ≤ c.length ∧ 0 ≤ s.1 ∧ s.1 ≤ 5 * i) (fun s => c.length - s.2.toNat) (fun s => 0 ≤ s ∧ s ≤ 5000) ?_ _ ⟨0, rfl, Nat.zero_le _, by (try dsimp only) <;> omega, by (try dsimp only) <;> omega⟩
  rintro ⟨s, k⟩ ⟨i, rfl, hi, h0, h1⟩
  dsimp only at h0 h1 ⊢
  unfold spec_l1Total_l1
  rcases Nat.lt_or_ge i c.length with h2 | h2
  · left
    have := hc _ (getD_mem (d := (0, 0)) h2)
    simp (disch := omega) only [cdec_pos, rq_pos, Int.toNat_natCast, rq_i64]
    exact ⟨_, rfl, ⟨i + 1, by simp, by omega, by (try dsimp only) <;> omega, by dsimp only; omega⟩, by dsimp only; omega⟩
  · right
    simp (disch := omega) only [cdec_neg]
    exact ⟨_, rfl, by omega, by omega⟩

theorem spec_l1Draw_ok {most : Int} {r : List Int × Int} (h : RdOk r 900000000) (hm : 1 ≤ most ∧ most ≤ 12) : ∃ r' b ts, spec_l1Draw most r = some (r', b, ts) ∧ Adv r r' 50 ∧ ts.length ≤ 12 ∧ ∀ t ∈ ts, 0 ≤ t.1 ∧ t.1 ≤ 5 := by
  unfold spec_l1Draw
  have key := loop_ex (f := spec_l1Draw_l1 most) (fun s => 1 ≤ s.1 ∧ s.1 ≤ most + 1 ∧ Adv r s.2.1 (3 * (s.1 - 1)) ∧ (s.2.2.length : Int) ≤ s.1 - 1 ∧ ∀ t ∈ s.2.2, 0 ≤ t.1 ∧ t.1 ≤ 5) (fun s => (most + 1 - s.1).toNat)
    (fun o => Adv r o.1 50 ∧ o.2.2.length ≤ 12 ∧ ∀ t ∈ o.2.2, 0 ≤ t.1 ∧ t.1 ≤ 5) ?_ ((1 : Int), r, []) ⟨by (try dsimp only) <;> omega, by (try dsimp only) <;> omega, Adv.refl r (by (try dsimp only) <;> omega), by simp, by simp⟩
  · obtain ⟨⟨r', b, ts⟩, h1, h2, h3⟩ := key
    exact ⟨r', b, ts, h1, h2, h3⟩
  rintro ⟨v, q, c0⟩ ⟨h1, h2, h3, h4, h5⟩
  dsimp only at h1 h2 h3 h4 h5 ⊢
  have hq : RdOk q 900000036 := h3.ok h (by omega)
  unfold spec_l1Draw_l1
  by_cases h6 : v ≤ most
  · left
    obtain ⟨x, q1, e1, a1, _⟩ := pick_adv 2 (r := q) ⟨hq.byte, hq.len, hq.low, by have := hq.high; omega⟩
    dsimp only
    rw [cdec_pos h6, e1, bind_s]
    cases (x == 0) with
    | false =>
      dsimp only
      rw [cff, rq_i64 (by omega) (by omega)]
      exact ⟨_, rfl, ⟨by (try dsimp only) <;> omega, by (try dsimp only) <;> omega, h3.trans a1 (by (try dsimp only) <;> omega), by (try dsimp only) <;> omega, h5⟩, by (try dsimp only) <;> omega⟩
    | true =>
      have hq1 : RdOk q1 900000037 := a1.ok hq (by omega)
      obtain ⟨y, q2, e2, a2, m2⟩ := num_adv (l := [1, 1, 2, 3, 1, 5, 4]) (r := q1) ⟨hq1.byte, hq1.len, hq1.low, by have := hq1.high; omega⟩ (by decide)
      have hq2 : RdOk q2 900000038 := a2.ok hq1 (by omega)
      obtain ⟨z, q3, e3, a3, _⟩ := pick_adv 2 (r := q2) ⟨hq2.byte, hq2.len, hq2.low, by have := hq2.high; omega⟩
      have hy : 0 ≤ y ∧ y ≤ 5 := by
        simp only [List.mem_cons, List.not_mem_nil, or_false] at m2
        omega
      have a4 : Adv r q3 (3 * (v + 1 - 1)) := (h3.trans a1 (Int.le_refl _)).trans (a2.trans a3 (Int.le_refl _)) (by omega)
      dsimp only
      rw [ctt, e2, bind_s, e3, bind_s]
      have fin : ∀ w : Int, ∃ s', spec_l1Draw_j2 v c0 (q3, (y, w)) = some (.inl s') ∧ (1 ≤ s'.1 ∧ s'.1 ≤ most + 1 ∧ Adv r s'.2.1 (3 * (s'.1 - 1)) ∧ (s'.2.2.length : Int) ≤ s'.1 - 1 ∧ ∀ t ∈ s'.2.2, 0 ≤ t.1 ∧ t.1 ≤ 5) ∧ (most + 1 - s'.1).toNat < (most + 1 - v).toNat := fun w => by
        unfold spec_l1Draw_j2
        dsimp only
        rw [rq_pos (by simp [bound]; omega), rq_i64 (by omega) (by omega)]
        refine ⟨_, rfl, ⟨by (try dsimp only) <;> omega, by (try dsimp only) <;> omega, a4, by simp; omega, fun t ht => ?_⟩, by (try dsimp only) <;> omega⟩
        rcases List.mem_append.1 ht with ht | ht
        · exact h5 t ht
        · rw [List.mem_singleton.1 ht]; exact hy
      dsimp only
      cases (z == 0) with
      | true => rw [ctt, rq_i64 (by omega) (by omega)]; exact fin _
      | false => rw [cff]; exact fin _
  · right
    obtain ⟨s, t1, t2, t3⟩ := spec_l1Total_ok (c := c0) (n := 12) (by omega) (by omega) h5 0
    obtain ⟨x, q1, e1, a1, _⟩ := num_adv (l := [1, 2, 1, 3, 0]) (r := q) ⟨hq.byte, hq.len, hq.low, by have := hq.high; omega⟩ (by decide)
    have hq1 : RdOk q1 900000037 := a1.ok hq (by omega)
    obtain ⟨y, q2, e2, a2, _⟩ := pick_adv 4 (r := q1) ⟨hq1.byte, hq1.len, hq1.low, by have := hq1.high; omega⟩
    have hq2 : RdOk q2 900000038 := a2.ok hq1 (by omega)
    obtain ⟨z, q3, e3, a3, _⟩ := pick_adv (s + 2) (r := q2) ⟨hq2.byte, hq2.len, hq2.low, by have := hq2.high; omega⟩
    dsimp only
    rw [cdec_neg h6]
    unfold spec_l1Draw_j1
    dsimp only
    rw [t1, bind_s, e1, bind_s, e2, bind_s]
    dsimp only
    cases (y == 0) with
    | true =>
      rw [ctt, rq_i64 (by omega) (by omega), e3, bind_s]
      exact ⟨_, rfl, (h3.trans a1 (Int.le_refl _)).trans (a2.trans a3 (Int.le_refl _)) (by omega), by (try dsimp only) <;> omega, h5⟩
    | false =>
      rw [cff]
      exact ⟨_, rfl, (h3.trans a1 (Int.le_refl _)).trans a2 (by omega), by (try dsimp only) <;> omega, h5⟩

theorem spec_l3Problem_ok {r : List Int × Int} (h : RdOk r 800000000) : ∃ r' l, spec_l3Problem r = some (r', l) ∧ Adv r r' 1000 ∧ l.length ≤ 8 ∧ ∀ x ∈ l, x.1.length ≤ 12 := by
  unfold spec_l3Problem
  obtain ⟨most, r1, e1, a1, m1⟩ := num_adv (l := [4, 5, 3, 6]) (r := r) ⟨h.byte, h.len, h.low, by have := h.high; omega⟩ (by decide)
  have h1 : RdOk r1 800000001 := a1.ok h (by omega)
  obtain ⟨n, r2, e2, a2, m2⟩ := num_adv (l := [4, 6, 3, 8, 2, 1, 0]) (r := r1) ⟨h1.byte, h1.len, h1.low, by have := h1.high; omega⟩ (by decide)
  have hmost : 1 ≤ most ∧ most ≤ 12 := by simp only [List.mem_cons, List.not_mem_nil, or_false] at m1; omega
  have hn : 0 ≤ n ∧ n ≤ 8 := by simp only [List.mem_cons, List.not_mem_nil, or_false] at m2; omega
  rw [e1, bind_s, e2, bind_s]
  have key := loop_ex (f := spec_l3Problem_l1 (most, r1)) (fun s => 0 ≤ s.1 ∧ s.1 ≤ n ∧ Adv r s.2.1 (2 + 50 * (n - s.1)) ∧ (s.2.2.length : Int) ≤ n - s.1 ∧ ∀ x ∈ s.2.2, x.1.length ≤ 12) (fun s => s.1.toNat)
    (fun o => Adv r o.1 1000 ∧ o.2.length ≤ 8 ∧ ∀ x ∈ o.2, x.1.length ≤ 12) ?_ (n, r2, []) ⟨by (try dsimp only) <;> omega, by (try dsimp only) <;> omega, a1.trans a2 (by (try dsimp only) <;> omega), by simp, by simp⟩
  · obtain ⟨⟨r', l⟩, q1, q2⟩ := key
    exact ⟨r', l, q1, q2⟩
  rintro ⟨i, q, out⟩ ⟨g1, g2, g3, g4, g5⟩
  dsimp only at g1 g2 g3 g4 g5 ⊢
  have hq : RdOk q 800000500 := g3.ok h (by omega)
  unfold spec_l3Problem_l1
  dsimp only
  by_cases h6 : 0 < i
  · left
    obtain ⟨r', b, ts, e3, a3, m3, _⟩ := spec_l1Draw_ok (r := q) (most := most) ⟨hq.byte, hq.len, hq.low, by have := hq.high; omega⟩ hmost
    rw [cdec_pos h6, e3, bind_s]
    dsimp only
    rw [rq_pos (by simp [bound]; omega), rq_i64 (by omega) (by omega)]
    refine ⟨_, rfl, ⟨by (try dsimp only) <;> omega, by (try dsimp only) <;> omega, g3.trans a3 (by (try dsimp only) <;> omega), by simp; omega, fun x hx => ?_⟩, by (try dsimp only) <;> omega⟩
    rcases List.mem_append.1 hx with hx | hx
    · exact g5 x hx
    · rw [List.mem_singleton.1 hx]; exact m3
  · right
    rw [cdec_neg h6]
    exact ⟨_, rfl, g3.trans (Adv.refl q (c := 0) (by omega)) (by omega), by (try dsimp only) <;> omega, g5⟩

theorem Copy_eq (c : List (Int × Int) × Int) (h : c.1.length ≤ 4000000000) : spec_l1Copy c = some (c.2, c.1) := by
  unfold spec_l1Copy
  rw [rq_pos (by simp [bound]; omega), List.nil_append]

theorem spec_l1Mutate_ok {c : List (Int × Int) × Int} {r : List Int × Int} {n : Nat} (h : RdOk r 900000000) (hc : c.1.length ≤ n) (hn : n ≤ 1000) : ∃ r' b ts, spec_l1Mutate c r = some (r', b, ts) ∧ Adv r r' 2 ∧ ts.length ≤ n + 1 := by
  unfold spec_l1Mutate
  obtain ⟨x, r1, e1, a1, _⟩ := pick_adv 40 (r := r) ⟨h.byte, h.len, h.low, by have := h.high; omega⟩
  have h1 : RdOk r1 900000001 := a1.ok h (by omega)
  have h1' : RdOk r1 1000000000 := ⟨h1.byte, h1.len, h1.low, by have := h1.high; omega⟩
  rw [Copy_eq c (by omega), bind_s, e1, bind_s]
  dsimp only
  cases (x == 0) with
  | true =>
    obtain ⟨y, r2, e2, a2, _⟩ := num_adv (l := [-1, 20001, 9223372036854775807]) (r := r1) h1' (by simp)
    rw [ctt, e2, bind_s]
    exact ⟨_, _, _, rfl, a1.trans a2 (by omega), by (try dsimp only) <;> omega⟩
  | false =>
    rw [cff]
    cases (x == 1) with
    | true =>
      rw [ctt]
      by_cases hl : (0 : Int) < c.1.length
      · obtain ⟨y, r2, e2, a2, _⟩ := num_adv (l := [0, -1, 1001]) (r := r1) h1' (by simp)
        rw [cdec_pos hl, e2, bind_s, rq_pos (by omega)]
        exact ⟨_, _, _, rfl, a1.trans a2 (by omega), by simp; omega⟩
      · rw [cdec_neg hl]
        exact ⟨_, _, _, rfl, a1.trans (Adv.refl r1 (c := 0) (by omega)) (by omega), by (try dsimp only) <;> omega⟩
    | false =>
      rw [cff]
      cases (x == 2) with
      | true =>
        rw [ctt]
        by_cases hl : (0 : Int) < c.1.length
        · obtain ⟨y, r2, e2, a2, _⟩ := num_adv (l := [0, 13, -13, 1, -9223372036854775808]) (r := r1) h1' (by simp)
          rw [cdec_pos hl, rq_i64 (by omega) (by omega), e2, bind_s, rq_pos (by omega)]
          exact ⟨_, _, _, rfl, a1.trans a2 (by omega), by simp; omega⟩
        · rw [cdec_neg hl]
          exact ⟨_, _, _, rfl, a1.trans (Adv.refl r1 (c := 0) (by omega)) (by omega), by (try dsimp only) <;> omega⟩
      | false =>
        rw [cff]
        cases (x == 3) with
        | true =>
          rw [ctt, rq_pos (by simp [bound]; omega)]
          exact ⟨_, _, _, rfl, a1.trans (Adv.refl r1 (c := 0) (by omega)) (by omega), by simp; omega⟩
        | false =>
          rw [cff]
          exact ⟨_, _, _, rfl, a1.trans (Adv.refl r1 (c := 0) (by omega)) (by omega), by (try dsimp only) <;> omega⟩

theorem spec_l3Mutate_ok {l : List (List (Int × Int) × Int)} {r : List Int × Int} (h : RdOk r 850000000) (hl : l.length ≤ 100) (hx : ∀ x ∈ l, x.1.length ≤ 12) :
    ∃ r' l', spec_l3Mutate l r = some (r', l') ∧ Adv r r' 10 ∧ l'.length = l.length ∧ ∀ x ∈ l', x.1.length ≤ 15 := by
  unfold spec_l3Mutate
  rw [rq_pos (by simp [bound]; omega), List.nil_append]
  by_cases h0 : (0 : Int) < l.length
  · obtain ⟨x, r1, e1, a1, _⟩ := pick_adv 20 (r := r) ⟨h.byte, h.len, h.low, by have := h.high; omega⟩
    have h1 : RdOk r1 850000001 := a1.ok h (by omega)
    rw [cdec_pos h0, e1, bind_s]
    dsimp only
    cases (x == 0) with
    | true =>
      obtain ⟨y, r2, e2, a2, y0, y1⟩ := pick_adv (l.length : Int) (r := r1) ⟨h1.byte, h1.len, h1.low, by have := h1.high; omega⟩
      have h2 : RdOk r2 850000002 := a2.ok h1 (by omega)
      have y1 := y1 (by omega)
      have hm := hx _ (getD_mem (l := l) (i := y.toNat) (d := ([], 0)) (by omega))
      obtain ⟨r3, b3, t3, e3, a3, m3⟩ := spec_l1Mutate_ok (c := l.getD y.toNat ([], 0)) (r := r2) (n := 12) ⟨h2.byte, h2.len, h2.low, by have := h2.high; omega⟩ hm (by omega)
      have h3 : RdOk r3 850000004 := a3.ok h2 (by omega)
      obtain ⟨r4, b4, t4, e4, a4, m4⟩ := spec_l1Mutate_ok (c := (t3, b3)) (r := r3) (n := 13) ⟨h3.byte, h3.len, h3.low, by have := h3.high; omega⟩ m3 (by omega)
      have h4 : RdOk r4 850000006 := a4.ok h3 (by omega)
      obtain ⟨r5, b5, t5, e5, a5, m5⟩ := spec_l1Mutate_ok (c := (t4, b4)) (r := r4) (n := 14) ⟨h4.byte, h4.len, h4.low, by have := h4.high; omega⟩ m4 (by omega)
      rw [ctt, e2, bind_s, rq_pos ⟨y0, y1⟩]
      dsimp only
      rw [e3, bind_s]
      dsimp only
      rw [e4, bind_s]
      dsimp only
      rw [e5, bind_s, rq_pos ⟨y0, y1⟩]
      refine ⟨_, _, rfl, ((a1.trans a2 (Int.le_refl _)).trans a3 (Int.le_refl _)).trans (a4.trans a5 (Int.le_refl _)) (by omega), by simp, fun z hz => ?_⟩
      rcases List.mem_or_eq_of_mem_set hz with hz | hz
      · have := hx z hz; omega
      · rw [hz]; dsimp only; omega
    | false =>
      rw [cff]
      exact ⟨_, _, rfl, a1.trans (Adv.refl r1 (c := 0) (by omega)) (by omega), rfl, fun z hz => by have := hx z hz; omega⟩
  · rw [cdec_neg h0]
    exact ⟨_, _, rfl, Adv.refl r (by omega), rfl, fun z hz => by have := hx z hz; omega⟩

end Go.AE.Y
