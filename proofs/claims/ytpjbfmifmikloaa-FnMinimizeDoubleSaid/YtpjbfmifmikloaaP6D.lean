/-
  Plain laws of the draws of models.
-/
import Derived.Test.YtpjbfmifmikloaaP3
import Derived.Test.YtpjbfmifmikloaaP6
namespace Go.AE.Y
open Go Go.AE

theorem RdOk.wk {r : List Int × Int} {m m' : Int} (h : RdOk r m) (hm : m ≤ m') : RdOk r m' := ⟨h.byte, h.len, h.low, by have := h.high; omega⟩

theorem spec_l6Some_j3_ok {r : List Int × Int} {l : List Int} (h : RdOk r 1000000000) : ∃ r' l', spec_l6Some__rsd_j3 r l = some (r', l') ∧ Adv r r' 1 ∧ l'.length = l.length := by
  unfold spec_l6Some__rsd_j3
  by_cases h1 : (1 : Int) < l.length
  · obtain ⟨x, r1, e1, a1, _⟩ := pick_adv 3 h
    rw [cdec_pos h1, e1, bind_s]
    dsimp only
    cases (x == 0) with
    | true =>
      rw [ctt, rq_pos ⟨by omega, by omega⟩, rq_pos ⟨by omega, by omega⟩, rq_pos ⟨by omega, by omega⟩, rq_pos ⟨by omega, by rw [List.length_set]; omega⟩]
      exact ⟨_, _, rfl, a1, by rw [List.length_set, List.length_set]⟩
    | false =>
      rw [cff]
      exact ⟨_, _, rfl, a1, rfl⟩
  · rw [cdec_neg h1]
    exact ⟨_, _, rfl, Adv.refl r (by omega), rfl⟩

theorem spec_l6Some_fill_ok {r : List Int × Int} {a2 : Int} (h : RdOk r 1000000000) (ha : 1 ≤ a2 ∧ a2 ≤ 6) {f : Int × List Int → Option ((Int × List Int) ⊕ ((List Int × Int) × List Int))} (hf : f = spec_l6Some__rsd_l1 a2 r ∨ f = spec_l6Some__rsd_l2 a2 r) :
    ∃ o, loop f ((0 : Int), []) = some o ∧ (Adv r o.1 1 ∧ a2 ≤ o.2.length ∧ o.2.length ≤ 6) := by
  refine loop_ex (f := f) (fun s => 0 ≤ s.1 ∧ s.1 ≤ a2 ∧ (s.2.length : Int) = s.1) (fun s => (a2 - s.1).toNat) (fun o => Adv r o.1 1 ∧ a2 ≤ o.2.length ∧ o.2.length ≤ 6) ?_ _ ⟨Int.le_refl _, by (try dsimp only) <;> omega, rfl⟩
  rintro ⟨i, l⟩ ⟨g1, g2, g3⟩
  dsimp only at g1 g2 g3 ⊢
  have e : f (i, l) = cond (decide (i < a2)) (rq (l.length + [i].length ≤ bound) <| rq (i64 (i + 1)) <| some (.inl (i + 1, l ++ [i]))) (up (spec_l6Some__rsd_j3 r l)) := by
    rcases hf with rfl | rfl <;> rfl
  rw [e]
  by_cases h1 : i < a2
  · left
    rw [cdec_pos h1, rq_pos (by simp [bound]; omega), rq_i64 (by omega) (by omega)]
    exact ⟨_, rfl, ⟨by (try dsimp only) <;> omega, by (try dsimp only) <;> omega, by simp; omega⟩, by (try dsimp only) <;> omega⟩
  · right
    obtain ⟨r', l', e1, a1, m1⟩ := spec_l6Some_j3_ok (l := l) h
    rw [cdec_neg h1, e1]
    exact ⟨_, rfl, a1, by (try dsimp only) <;> omega, by (try dsimp only) <;> omega⟩

theorem spec_l6Some_j2_ok {r : List Int × Int} {a2 : Int} {l : List Int} (h : RdOk r 1000000000) (ha : 1 ≤ a2 ∧ a2 ≤ 6) (hl : l.length ≤ 6) :
    ∃ o, spec_l6Some__rsd_j2 a2 r l = some o ∧ (Adv r o.1 1 ∧ a2 ≤ o.2.length ∧ o.2.length ≤ 6) := by
  unfold spec_l6Some__rsd_j2
  by_cases h1 : (l.length : Int) < a2
  · rw [cdec_pos h1]
    exact spec_l6Some_fill_ok h ha (Or.inl rfl)
  · rw [cdec_neg h1, cbeq_neg (by omega)]
    obtain ⟨r', l', e1, a1, m1⟩ := spec_l6Some_j3_ok (l := l) h
    exact ⟨_, e1, a1, by (try dsimp only) <;> omega, by (try dsimp only) <;> omega⟩

theorem spec_l6Some_ok {r : List Int × Int} {a2 : Int} {o1 : List Int} (o2 : List RuleT) (h : RdOk r 900000000) (ha : 1 ≤ a2 ∧ a2 ≤ 6) (ho : o1.length ≤ 6) :
    ∃ r' l, spec_l6Some__rsd a2 r o1 o2 = some (r', l) ∧ Adv r r' 7 ∧ a2 ≤ l.length ∧ l.length ≤ 6 := by
  unfold spec_l6Some__rsd
  have key := loop_ex (f := spec_l6Some__rsd_l4 a2 o1) (fun s => 0 ≤ s.1 ∧ s.1 ≤ o1.length ∧ Adv r s.2.1 s.1 ∧ (s.2.2.length : Int) ≤ s.1) (fun s => (o1.length - s.1).toNat)
    (fun o => Adv r o.1 7 ∧ a2 ≤ o.2.length ∧ o.2.length ≤ 6) ?_ ((0 : Int), r, []) ⟨Int.le_refl _, by (try dsimp only) <;> omega, Adv.refl r (Int.le_refl _), by simp⟩
  · obtain ⟨⟨r', l⟩, q1, q2⟩ := key
    exact ⟨r', l, q1, q2⟩
  rintro ⟨i, q, l⟩ ⟨g1, g2, g3, g4⟩
  dsimp only at g1 g2 g3 g4 ⊢
  have hq : RdOk q 900000006 := g3.ok h (by omega)
  unfold spec_l6Some__rsd_l4
  dsimp only
  by_cases h1 : i < o1.length
  · left
    obtain ⟨x, q1, e1, a1, _⟩ := pick_adv 3 (hq.wk (by omega))
    rw [cdec_pos h1, e1, bind_s]
    dsimp only
    by_cases h2 : 0 < x
    · rw [cdec_pos h2, rq_pos (by simp [bound]; omega), rq_i64 (by omega) (by omega)]
      exact ⟨_, rfl, ⟨by (try dsimp only) <;> omega, by (try dsimp only) <;> omega, g3.trans a1 (Int.le_refl _), by simp; omega⟩, by (try dsimp only) <;> omega⟩
    · rw [cdec_neg h2, rq_i64 (by omega) (by omega)]
      exact ⟨_, rfl, ⟨by (try dsimp only) <;> omega, by (try dsimp only) <;> omega, g3.trans a1 (Int.le_refl _), by (try dsimp only) <;> omega⟩, by (try dsimp only) <;> omega⟩
  · right
    rw [cdec_neg h1]
    have key2 : ∃ o, spec_l6Some__rsd_j1 a2 o1 (q, l) = some o ∧ (Adv q o.1 1 ∧ a2 ≤ o.2.length ∧ o.2.length ≤ 6) := by
      unfold spec_l6Some__rsd_j1
      refine loop_ex (f := spec_l6Some__rsd_l3 a2 o1 q) (fun s => 0 ≤ s.1 ∧ s.1 ≤ o1.length ∧ s.2.length ≤ 6) (fun s => (o1.length - s.1).toNat) _ ?_ ((0 : Int), l) ⟨Int.le_refl _, by (try dsimp only) <;> omega, by (try dsimp only) <;> omega⟩
      rintro ⟨j, l⟩ ⟨k1, k2, k3⟩
      dsimp only at k1 k2 k3 ⊢
      unfold spec_l6Some__rsd_l3
      dsimp only
      by_cases h2 : (l.length : Int) < a2
      · rw [cdec_pos h2]
        by_cases h3 : j < o1.length
        · left
          rw [cdec_pos h3]
          by_cases h4 : (l.length : Int) = 0
          · rw [cbeq_pos h4, rq_pos (by simp [bound]; omega), rq_i64 (by omega) (by omega)]
            exact ⟨_, rfl, ⟨by (try dsimp only) <;> omega, by (try dsimp only) <;> omega, by simp; omega⟩, by (try dsimp only) <;> omega⟩
          · rw [cbeq_neg h4, rq_i64 (by omega) (by omega), rq_pos ⟨by omega, by omega⟩]
            by_cases h5 : l.getD ((l.length : Int) - 1).toNat 0 < j
            · rw [cdec_pos h5, rq_pos (by simp [bound]; omega), rq_i64 (by omega) (by omega)]
              exact ⟨_, rfl, ⟨by (try dsimp only) <;> omega, by (try dsimp only) <;> omega, by simp; omega⟩, by (try dsimp only) <;> omega⟩
            · rw [cdec_neg h5, rq_i64 (by omega) (by omega)]
              exact ⟨_, rfl, ⟨by (try dsimp only) <;> omega, by (try dsimp only) <;> omega, k3⟩, by (try dsimp only) <;> omega⟩
        · right
          obtain ⟨o, e1, q1⟩ := spec_l6Some_j2_ok (hq.wk (show (900000006 : Int) ≤ 1000000000 by omega)) ha k3
          rw [cdec_neg h3, e1]
          exact ⟨o, rfl, q1⟩
      · right
        obtain ⟨o, e1, q1⟩ := spec_l6Some_j2_ok (hq.wk (show (900000006 : Int) ≤ 1000000000 by omega)) ha k3
        rw [cdec_neg h2, e1]
        exact ⟨o, rfl, q1⟩
    obtain ⟨o, e1, q1, q2⟩ := key2
    rw [e1]
    exact ⟨o, rfl, g3.trans q1 (by omega), q2⟩

/-- A drawn rule. -/
def okR (r : RuleT) : Prop := r.2.1.length ≤ 8 ∧ r.2.2.1.length ≤ 8 ∧ r.2.2.2.2.length ≤ 8 ∧ ∀ x ∈ r.2.2.2.2, x.length ≤ 8
/-- A drawn model. -/
def okM (m : ModT) : Prop := m.1.length ≤ 8 ∧ m.2.length ≤ 8 ∧ ∀ r ∈ m.2, okR r

theorem okM.small {m : ModT} (h : okM m) : smallM m :=
  ⟨by have := h.1; omega, by have := h.2.1; omega, fun r hr => ⟨by have := (h.2.2 r hr).1; omega, by have := (h.2.2 r hr).2.1; omega, by have := (h.2.2 r hr).2.2.1; omega, fun x hx => by have := (h.2.2 r hr).2.2.2 x hx; omega⟩⟩

theorem spec_l6Draw_ok {r : List Int × Int} {o1 : List Int} (o2 : List RuleT) (h : RdOk r 800000000) (ho : o1.length ≤ 6) :
    ∃ r' a b c d e, spec_l6Draw__rsd r o1 o2 = some (r', a, b, c, d, e) ∧ Adv r r' 200 ∧ c.length ≤ 6 ∧ d.length ≤ 6 ∧ e.length ≤ 8 ∧ ∀ x ∈ e, x.length ≤ 6 := by
  unfold spec_l6Draw__rsd
  obtain ⟨k, r1, e1, a1, _⟩ := num_adv (l := [1, 2, 3, 4, 1]) (h.wk (by omega)) (by decide)
  have h1 : RdOk r1 800000001 := a1.ok h (by omega)
  obtain ⟨r2, l, e2, a2, m1, m2⟩ := spec_l6Some_ok (a2 := 1) o2 (h1.wk (by omega)) (by omega) ho
  have h2 : RdOk r2 800000008 := a2.ok h1 (by omega)
  rw [e1, bind_s]
  dsimp only
  rw [e2, bind_s]
  dsimp only
  cases (k == 1) with
  | true =>
    rw [ctt]
    have key := loop_ex (f := spec_l6Draw__rsd_l1 (k, r1) (r2, l)) (fun s => 0 ≤ s.1 ∧ s.1 ≤ l.length ∧ Adv r2 s.2.1 s.1 ∧ (s.2.2.length : Int) ≤ s.1) (fun s => (l.length - s.1).toNat)
      (fun o => Adv r2 o.1 7 ∧ o.2.2.2.1.length ≤ 6 ∧ o.2.2.2.2.1.length ≤ 6 ∧ o.2.2.2.2.2 = []) ?_ ((0 : Int), r2, []) ⟨Int.le_refl _, by (try dsimp only) <;> omega, Adv.refl r2 (Int.le_refl _), by simp⟩
    · obtain ⟨⟨r', a, b, c, d, e⟩, q1, q2, q3, q4, q5⟩ := key
      dsimp only at q2 q3 q4 q5
      subst q5
      exact ⟨r', a, b, c, d, [], q1, (a1.trans a2 (Int.le_refl _)).trans q2 (by omega), q3, q4, by simp, by simp⟩
    rintro ⟨i, q, c⟩ ⟨g1, g2, g3, g4⟩
    dsimp only at g1 g2 g3 g4 ⊢
    have hq : RdOk q 800000014 := g3.ok h2 (by omega)
    unfold spec_l6Draw__rsd_l1
    dsimp only
    by_cases h3 : i < l.length
    · left
      obtain ⟨x, q1, e3, a3, _⟩ := num_adv (l := [1, -1, 2, 1, -2, 3]) (hq.wk (by omega)) (by decide)
      rw [cdec_pos h3, e3, bind_s, rq_pos (by simp [bound]; omega), rq_i64 (by omega) (by omega)]
      exact ⟨_, rfl, ⟨by (try dsimp only) <;> omega, by (try dsimp only) <;> omega, g3.trans a3 (Int.le_refl _), by simp; omega⟩, by (try dsimp only) <;> omega⟩
    · right
      obtain ⟨x, q1, e3, a3, _⟩ := num_adv (l := [1, 2, 0, -1, 3, -3, 4]) (hq.wk (by omega)) (by decide)
      rw [cdec_neg h3]
      unfold spec_l6Draw__rsd_j1
      dsimp only
      rw [e3, bind_s]
      exact ⟨_, rfl, g3.trans a3 (by omega), m2, by (try dsimp only) <;> omega, rfl⟩
  | false =>
    rw [cff]
    cases (k == 3) with
    | true =>
      rw [ctt]
      obtain ⟨n, r3, e3, a3, m3⟩ := num_adv (l := [3, 4, 2, 6, 0, 8]) (h2.wk (by omega)) (by decide)
      have hn : 0 ≤ n ∧ n ≤ 8 := by simp only [List.mem_cons, List.not_mem_nil, or_false] at m3; omega
      rw [e3, bind_s]
      dsimp only
      have key := loop_ex (f := spec_l6Draw__rsd_l2 (k, r1) (r2, l)) (fun s => 0 ≤ s.1 ∧ s.1 ≤ n ∧ Adv r2 s.2.1 (1 + 6 * (n - s.1)) ∧ (s.2.2.length : Int) ≤ n - s.1 ∧ ∀ x ∈ s.2.2, x.length ≤ 6) (fun s => s.1.toNat)
        (fun o => Adv r2 o.1 50 ∧ o.2.2.2.1.length ≤ 6 ∧ o.2.2.2.2.1 = [] ∧ o.2.2.2.2.2.length ≤ 8 ∧ ∀ x ∈ o.2.2.2.2.2, x.length ≤ 6) ?_ (n, r3, []) ⟨by (try dsimp only) <;> omega, by (try dsimp only) <;> omega, Adv.trans a3 (Adv.refl r3 (c := 0) (by omega)) (by (try dsimp only) <;> omega), by simp, by simp⟩
      · obtain ⟨⟨r', a, b, c, d, e⟩, q1, q2, q3, q4, q5, q6⟩ := key
        dsimp only at q2 q3 q4 q5 q6
        subst q4
        exact ⟨r', a, b, c, [], e, q1, (a1.trans a2 (Int.le_refl _)).trans q2 (by omega), q3, by simp, q5, q6⟩
      rintro ⟨i, q, e⟩ ⟨g1, g2, g3, g4, g5⟩
      dsimp only at g1 g2 g3 g4 g5 ⊢
      have hq : RdOk q 800000057 := g3.ok h2 (by omega)
      unfold spec_l6Draw__rsd_l2
      dsimp only
      by_cases h3 : 0 < i
      · left
        rw [cdec_pos h3]
        obtain ⟨o, w1, o', w2, w3⟩ := loop_ex (f := spec_l6Draw__rsd_l3 (r2, l) i e) (fun s => 0 ≤ s.1 ∧ s.1 ≤ l.length ∧ Adv q s.2.1 s.1 ∧ (s.2.2.length : Int) ≤ s.1) (fun s => (l.length - s.1).toNat)
          (fun o => ∃ o' : Int × (List Int × Int) × List (List Int), o = .inl o' ∧ (o'.1 = i - 1 ∧ Adv q o'.2.1 6 ∧ ∃ x : List Int, o'.2.2 = e ++ [x] ∧ x.length ≤ 6)) (by
            rintro ⟨j, p, v⟩ ⟨k1, k2, k3, k4⟩
            dsimp only at k1 k2 k3 k4 ⊢
            have hp : RdOk p 800000064 := k3.ok hq (by omega)
            unfold spec_l6Draw__rsd_l3
            dsimp only
            by_cases h4 : j < l.length
            · left
              obtain ⟨x, p1, e4, a4, _⟩ := pick_adv 4 (hp.wk (by omega))
              rw [cdec_pos h4, e4, bind_s, rq_pos (by simp [bound]; omega), rq_i64 (by omega) (by omega)]
              exact ⟨_, rfl, ⟨by (try dsimp only) <;> omega, by (try dsimp only) <;> omega, k3.trans a4 (Int.le_refl _), by simp; omega⟩, by (try dsimp only) <;> omega⟩
            · right
              rw [cdec_neg h4]
              unfold spec_l6Draw__rsd_j2
              dsimp only
              rw [rq_pos (by simp [bound]; omega), rq_i64 (by omega) (by omega)]
              exact ⟨_, rfl, _, rfl, rfl, k3.trans (Adv.refl p (c := 0) (by omega)) (by omega), v, rfl, by (try dsimp only) <;> omega⟩) ((0 : Int), q, []) ⟨Int.le_refl _, by (try dsimp only) <;> omega, Adv.refl q (Int.le_refl _), by simp⟩
        subst w2
        obtain ⟨i', q', e'⟩ := o'
        obtain ⟨y1, y2, x, y3, y4⟩ := w3
        dsimp only at y1 y2 y3
        subst y1 y3
        refine ⟨_, w1, ⟨by (try dsimp only) <;> omega, by (try dsimp only) <;> omega, g3.trans y2 (by (try dsimp only) <;> omega), by simp; omega, fun z hz => ?_⟩, by (try dsimp only) <;> omega⟩
        rcases List.mem_append.1 hz with hz | hz
        · exact g5 z hz
        · rw [List.mem_singleton.1 hz]; exact y4
      · right
        rw [cdec_neg h3]
        exact ⟨_, rfl, g3.trans (Adv.refl q (c := 0) (by omega)) (by omega), m2, rfl, by (try dsimp only) <;> omega, g5⟩
    | false =>
      rw [cff]
      cases (k == 4) with
      | true =>
        rw [ctt]
        obtain ⟨r3, l3, e3, a3, m3, m4⟩ := spec_l6Some_ok (a2 := 2) o2 (h2.wk (by omega)) (by omega) ho
        rw [e3, bind_s, rq_pos ⟨by omega, by (try dsimp only) <;> omega⟩]
        exact ⟨_, _, _, _, _, _, rfl, (a1.trans a2 (Int.le_refl _)).trans a3 (by omega), by simp; omega, by simp, by simp, by simp⟩
      | false =>
        rw [cff]
        exact ⟨_, _, _, _, _, _, rfl, a1.trans a2 (by omega), m2, by simp, by simp, by simp⟩

theorem sum_step {l : List Int} (h : ∀ x ∈ l, 0 ≤ x ∧ x ≤ 3) {i : Nat} (hi : i < l.length) : 0 ≤ l.getD i 0 ∧ l.getD i 0 ≤ 3 := h _ (getD_mem hi)

theorem spec_l6Model_j2_ok {r : List Int × Int} {l : List Int} (h : RdOk r 700000100) (hl : l.length ≤ 6) : ∃ o, spec_l6Model_j2 r l = some o ∧ (Adv r o.1 1001 ∧ o.2.1 = l ∧ o.2.2.length ≤ 4 ∧ ∀ r ∈ o.2.2, okR r) := by
  unfold spec_l6Model_j2
  obtain ⟨n, r1, e1, a1, m1⟩ := num_adv (l := [2, 3, 1, 4, 0]) (h.wk (by omega)) (by decide)
  have hn : 0 ≤ n ∧ n ≤ 4 := by simp only [List.mem_cons, List.not_mem_nil, or_false] at m1; omega
  rw [e1, bind_s]
  dsimp only
  refine loop_ex (f := spec_l6Model_l1 l) (fun s => 0 ≤ s.1 ∧ s.1 ≤ n ∧ Adv r s.2.1 (1 + 200 * (n - s.1)) ∧ (s.2.2.length : Int) ≤ n - s.1 ∧ ∀ r ∈ s.2.2, okR r) (fun s => s.1.toNat) _ ?_ (n, r1, []) ⟨by (try dsimp only) <;> omega, by (try dsimp only) <;> omega, Adv.trans a1 (Adv.refl r1 (c := 0) (by omega)) (by (try dsimp only) <;> omega), by simp, by simp⟩
  rintro ⟨i, q, e⟩ ⟨g1, g2, g3, g4, g5⟩
  dsimp only at g1 g2 g3 g4 g5 ⊢
  have hq : RdOk q 700001101 := g3.ok h (by omega)
  unfold spec_l6Model_l1
  dsimp only
  by_cases h3 : 0 < i
  · left
    obtain ⟨q1, a, b, c, d, t, e2, a2, m2, m3, m4, m5⟩ := spec_l6Draw_ok (o1 := l) e (hq.wk (by omega)) hl
    rw [cdec_pos h3, e2, bind_s]
    dsimp only
    rw [rq_pos (by simp [bound]; omega), rq_i64 (by omega) (by omega)]
    refine ⟨_, rfl, ⟨by (try dsimp only) <;> omega, by (try dsimp only) <;> omega, g3.trans a2 (by (try dsimp only) <;> omega), by simp; omega, fun z hz => ?_⟩, by (try dsimp only) <;> omega⟩
    rcases List.mem_append.1 hz with hz | hz
    · exact g5 z hz
    · rw [List.mem_singleton.1 hz]
      exact ⟨by (try dsimp only) <;> omega, by (try dsimp only) <;> omega, by (try dsimp only) <;> omega, fun x hx => by have := m5 x hx; omega⟩
  · right
    rw [cdec_neg h3]
    exact ⟨_, rfl, g3.trans (Adv.refl q (c := 0) (by omega)) (by omega), rfl, by (try dsimp only) <;> omega, g5⟩

theorem spec_l6Model_l3_ok {l : List Int} (h : ∀ x ∈ l, 0 ≤ x ∧ x ≤ 3) (h2 : 2 ≤ l.length) (h4 : l.length ≤ 4) :
    loop (spec_l6Model_l3 l) ((0 : Int), (0 : Int)) = some (.inl ((0 : Int), l.take (l.length - 1))) ∧ 4 ≤ l.length ∨ ∃ n, loop (spec_l6Model_l3 l) ((0 : Int), (0 : Int)) = some (.inl (n, l)) ∧ n ≠ 0 := by
  have key := loop_ex (f := spec_l6Model_l3 l) (fun s => ∃ i : Nat, s.2 = i ∧ i ≤ l.length ∧ (i : Int) ≤ s.1 ∧ s.1 ≤ 4 * i) (fun s => l.length - s.2.toNat)
    (fun o => o = .inl ((0 : Int), l.take (l.length - 1)) ∧ 4 ≤ l.length ∨ ∃ n, o = .inl (n, l) ∧ n ≠ 0) ?_ ((0 : Int), (0 : Int)) ⟨0, rfl, Nat.zero_le _, Int.le_refl _, Int.le_refl _⟩
  · obtain ⟨o, q1, ⟨rfl, q2⟩ | ⟨n, rfl, q2⟩⟩ := key
    · exact Or.inl ⟨q1, q2⟩
    · exact Or.inr ⟨n, q1, q2⟩
  rintro ⟨a, s⟩ ⟨i, rfl, hi, g1, g2⟩
  dsimp only at g1 g2 ⊢
  unfold spec_l6Model_l3
  dsimp only
  rcases Nat.lt_or_ge i l.length with h1 | h1
  · left
    have := sum_step h h1
    rw [cdec_pos (by omega), rq_pos ⟨by omega, by omega⟩, Int.toNat_natCast, rq_i64 (by omega) (by omega), rq_i64 (by omega) (by omega), rq_i64 (by omega) (by omega)]
    exact ⟨_, rfl, ⟨i + 1, by simp, by omega, by (try dsimp only) <;> omega, by (try dsimp only) <;> omega⟩, by (try dsimp only) <;> omega⟩
  · right
    have : i = l.length := by omega
    subst this
    rw [cdec_neg (by omega)]
    by_cases h5 : 12 < a
    · rw [cdec_pos h5, rq_i64 (by omega) (by omega), rq_pos ⟨by omega, by omega⟩]
      exact ⟨_, rfl, Or.inl ⟨by rw [show ((l.length : Int) - 1).toNat = l.length - 1 by omega], by omega⟩⟩
    · rw [cdec_neg h5]
      exact ⟨_, rfl, Or.inr ⟨a, rfl, by omega⟩⟩

theorem spec_l6Model_ok {r : List Int × Int} (h : RdOk r 700000000) : ∃ r' m, spec_l6Model r = some (r', m) ∧ Adv r r' 1100 ∧ m.1.length ≤ 4 ∧ m.2.length ≤ 4 ∧ ∀ r ∈ m.2, okR r := by
  unfold spec_l6Model
  obtain ⟨n, r1, e1, a1, m1⟩ := num_adv (l := [3, 2, 4, 3]) (h.wk (by omega)) (by decide)
  have hn : 2 ≤ n ∧ n ≤ 4 := by simp only [List.mem_cons, List.not_mem_nil, or_false] at m1; omega
  rw [e1, bind_s]
  dsimp only
  have key := loop_ex (f := spec_l6Model_l4) (fun s => 0 ≤ s.1 ∧ s.1 ≤ n ∧ Adv r s.2.1 (1 + (n - s.1)) ∧ (s.2.2.length : Int) = n - s.1 ∧ ∀ x ∈ s.2.2, 0 ≤ x ∧ x ≤ 3) (fun s => s.1.toNat)
    (fun o => Adv r o.1 1100 ∧ o.2.1.length ≤ 4 ∧ o.2.2.length ≤ 4 ∧ ∀ r ∈ o.2.2, okR r) ?_ (n, r1, []) ⟨by (try dsimp only) <;> omega, by (try dsimp only) <;> omega, Adv.trans a1 (Adv.refl r1 (c := 0) (by omega)) (by (try dsimp only) <;> omega), by simp, by simp⟩
  · obtain ⟨⟨r', m⟩, q1, q2⟩ := key
    exact ⟨r', m, q1, q2⟩
  rintro ⟨i, q, l⟩ ⟨g1, g2, g3, g4, g5⟩
  dsimp only at g1 g2 g3 g4 g5 ⊢
  have hq : RdOk q 700000005 := g3.ok h (by omega)
  unfold spec_l6Model_l4
  dsimp only
  by_cases h3 : 0 < i
  · left
    obtain ⟨x, q1, e2, a2, m2⟩ := num_adv (l := [2, 1, 3, 2, 0]) (hq.wk (by omega)) (by decide)
    have hx : 0 ≤ x ∧ x ≤ 3 := by simp only [List.mem_cons, List.not_mem_nil, or_false] at m2; omega
    rw [cdec_pos h3, e2, bind_s, rq_pos (by simp [bound]; omega), rq_i64 (by omega) (by omega)]
    refine ⟨_, rfl, ⟨by (try dsimp only) <;> omega, by (try dsimp only) <;> omega, g3.trans a2 (by (try dsimp only) <;> omega), by simp; omega, fun z hz => ?_⟩, by (try dsimp only) <;> omega⟩
    rcases List.mem_append.1 hz with hz | hz
    · exact g5 z hz
    · rw [List.mem_singleton.1 hz]; exact hx
  · right
    rw [cdec_neg h3]
    have key2 : ∃ o, spec_l6Model_j1 (q, l) = some o ∧ (Adv q o.1 1001 ∧ o.2.1.length ≤ 4 ∧ o.2.2.length ≤ 4 ∧ ∀ r ∈ o.2.2, okR r) := by
      unfold spec_l6Model_j1
      refine loop_ex (f := spec_l6Model_l2 q) (fun s => (s.1 = 0 ∧ 2 ≤ s.2.length ∨ s.1 ≠ 0) ∧ s.2.length ≤ 4 ∧ ∀ x ∈ s.2, 0 ≤ x ∧ x ≤ 3) (fun s => if s.1 = 0 then 1 + s.2.length else 0) _ ?_ ((0 : Int), l) ⟨Or.inl ⟨rfl, by (try dsimp only) <;> omega⟩, by (try dsimp only) <;> omega, g5⟩
      rintro ⟨a, l⟩ ⟨k1, k2, k3⟩
      dsimp only at k1 k2 k3 ⊢
      unfold spec_l6Model_l2
      dsimp only
      by_cases h4 : a = 0
      · left
        subst h4
        rw [cbeq_pos rfl]
        have k1 : 2 ≤ l.length := by rcases k1 with k1 | k1 <;> omega
        rcases spec_l6Model_l3_ok k3 k1 k2 with ⟨w1, w2⟩ | ⟨n', w1, w2⟩
        · rw [w1]
          refine ⟨_, rfl, ⟨Or.inl ⟨rfl, by (try dsimp only) <;> (rw [List.length_take]; omega)⟩, by (try dsimp only) <;> (rw [List.length_take]; omega), fun x hx => k3 x (List.mem_of_mem_take hx)⟩, ?_⟩
          dsimp only
          rw [if_pos rfl, if_pos rfl, List.length_take]
          omega
        · rw [w1]
          refine ⟨_, rfl, ⟨Or.inr w2, k2, k3⟩, ?_⟩
          dsimp only
          rw [if_neg w2, if_pos rfl]
          omega
      · right
        rw [cbeq_neg h4]
        obtain ⟨o, w1, w2, w3, w4⟩ := spec_l6Model_j2_ok (l := l) (hq.wk (show (700000005 : Int) ≤ 700000100 by omega)) (by omega)
        rw [w1]
        exact ⟨_, rfl, w2, by rw [w3]; omega, w4⟩
    obtain ⟨o, w1, w2, w3⟩ := key2
    rw [w1]
    exact ⟨_, rfl, g3.trans w2 (by omega), w3⟩

theorem take_snocD {α : Type} {l : List α} {i : Nat} (d : α) (h : i < l.length) : l.take (i + 1) = l.take i ++ [l.getD i d] := by
  rw [List.take_add_one, List.getElem?_eq_getElem h, List.getD_eq_getElem?_getD, List.getElem?_eq_getElem h]
  rfl

theorem spec_l6Copy_eq (m : ModT) (h : smallM m) : spec_l6Copy m = some m := by
  have hb : ∀ {n : Nat}, n ≤ 1048576 → n + 1 ≤ bound := fun h => by simp only [bound]; omega
  have hb' : ∀ {n : Nat}, n ≤ 1048576 → 0 + n ≤ bound := fun h => by simp only [bound]; omega
  unfold spec_l6Copy
  rw [rq_pos (by simp only [List.length_nil]; exact hb' h.1)]
  have hh : m.2.length ≤ 1048576 := h.2.1
  refine loop_fn (fun s : Int × List RuleT => ∃ i : Nat, s.1 = i ∧ i ≤ m.2.length ∧ s.2 = m.2.take i) (fun s => m.2.length - s.1.toNat) (fun _ => m) ?_ _ ⟨0, rfl, Nat.zero_le _, rfl⟩
  rintro ⟨a, out⟩ ⟨i, rfl, hi, rfl⟩
  dsimp only
  unfold spec_l6Copy_l1
  dsimp only
  rcases Nat.lt_or_ge i m.2.length with h1 | h1
  · left
    have hr := h.2.2 _ (getD_mem (l := m.2) (i := i) (d := (0, [], [], 0, [])) h1)
    obtain ⟨hr1, hr2, hr3, hr4⟩ := hr
    rw [cdec_pos (by omega), rq_pos ⟨by omega, by omega⟩]
    unfold spec_l6Copy_j1
    rw [Int.toNat_natCast]
    rw [rq_pos (by simp only [List.length_nil]; exact hb' hr1), rq_pos (by simp only [List.length_nil]; exact hb' hr2)]
    unfold spec_l6Copy_j2
    have e : loop (spec_l6Copy_l2 m (i : Int) (m.2.take i)) ((0 : Int), []) = some (.inl ((i : Int) + 1, m.2.take (i + 1))) := by
      refine loop_fn (f := spec_l6Copy_l2 m (i : Int) (m.2.take i)) (fun s : Int × List (List Int) => ∃ k : Nat, s.1 = k ∧ k ≤ (m.2.getD i (0, [], [], 0, [])).2.2.2.2.length ∧ s.2 = (m.2.getD i (0, [], [], 0, [])).2.2.2.2.take k) (fun s => (m.2.getD i (0, [], [], 0, [])).2.2.2.2.length - s.1.toNat) (fun _ => .inl ((i : Int) + 1, m.2.take (i + 1))) ?_ _ ⟨0, rfl, Nat.zero_le _, rfl⟩
      rintro ⟨b, t⟩ ⟨k, rfl, hk, rfl⟩
      dsimp only
      unfold spec_l6Copy_l2
      dsimp only
      rw [Int.toNat_natCast]
      rcases Nat.lt_or_ge k (m.2.getD i (0, [], [], 0, [])).2.2.2.2.length with h2 | h2
      · left
        have hx := hr4 _ (getD_mem (l := (m.2.getD i (0, [], [], 0, [])).2.2.2.2) (i := k) (d := []) h2)
        rw [cdec_pos (by omega), rq_pos ⟨by omega, by omega⟩, Int.toNat_natCast]
        rw [rq_pos (by simp only [List.length_nil]; exact hb' hx), rq_pos (by rw [List.length_singleton, List.length_take]; exact hb (by omega)), rq_i64 (by omega) (by omega), List.nil_append]
        exact ⟨_, rfl, ⟨k + 1, by simp, by omega, by rw [take_snocD [] h2]⟩, by (try dsimp only) <;> omega, rfl⟩
      · right
        have : k = (m.2.getD i (0, [], [], 0, [])).2.2.2.2.length := by omega
        rw [cdec_neg (by omega)]
        unfold spec_l6Copy_j3
        rw [Int.toNat_natCast, rq_pos (by rw [List.length_singleton, List.length_take]; exact hb (by omega)), rq_i64 (by omega) (by omega), List.nil_append, List.nil_append, this, List.take_length, take_snocD (0, [], [], 0, []) h1]
        rfl
    rw [e]
    exact ⟨_, rfl, ⟨i + 1, by simp, by omega, rfl⟩, by (try dsimp only) <;> omega, rfl⟩
  · right
    have : i = m.2.length := by omega
    rw [cdec_neg (by omega), this, List.take_length, List.nil_append]

theorem okR_set {l : List RuleT} (h : ∀ r ∈ l, okR r) {r : RuleT} (hr : okR r) (i : Nat) : ∀ x ∈ l.set i r, okR x := fun x hx => by
  rcases List.mem_or_eq_of_mem_set hx with hx | hx
  · exact h x hx
  · rw [hx]; exact hr

theorem spec_l6Mutate_ok {m : ModT} {r : List Int × Int} (h : RdOk r 700100000) (hm : m.1.length ≤ 4 ∧ m.2.length ≤ 4 ∧ ∀ r ∈ m.2, okR r) :
    ∃ r' m', spec_l6Mutate m r = some (r', m') ∧ Adv r r' 2 ∧ m'.1.length ≤ 6 ∧ m'.2.length ≤ 4 ∧ ∀ r ∈ m'.2, okR r := by
  obtain ⟨s, t⟩ := m
  obtain ⟨m1, m2, m3⟩ := hm
  dsimp only at m1 m2 m3
  unfold spec_l6Mutate
  obtain ⟨x, r1, e1, a1, _⟩ := pick_adv 50 (h.wk (show (700100000 : Int) ≤ 1000000000 by omega))
  have h1 : RdOk r1 700100001 := a1.ok h (by omega)
  have h1' : RdOk r1 1000000000 := h1.wk (by omega)
  rw [spec_l6Copy_eq _ (okM.small ⟨by (try dsimp only) <;> omega, by (try dsimp only) <;> omega, m3⟩), bind_s, e1, bind_s]
  dsimp only
  have a1' : Adv r r1 2 := a1.trans (Adv.refl r1 (c := 0) (by omega)) (by omega)
  have gt : t.getD 0 (0, [], [], 0, []) ∈ t ∨ t = [] := by
    cases t with
    | nil => exact Or.inr rfl
    | cons y z => exact Or.inl (List.mem_cons_self ..)
  cases (x == 0) with
  | true =>
    rw [ctt]
    by_cases hl : (0 : Int) < s.length
    · obtain ⟨y, r2, e2, a2, _⟩ := num_adv (l := [-1, 4, 3, 9223372036854775807]) h1' (by simp)
      rw [cdec_pos hl, e2, bind_s, rq_pos ⟨by omega, hl⟩]
      exact ⟨_, _, rfl, a1.trans a2 (by omega), by (try dsimp only) <;> (rw [List.length_set]; omega), m2, m3⟩
    · rw [cdec_neg hl]
      exact ⟨_, _, rfl, a1', by (try dsimp only) <;> omega, m2, m3⟩
  | false =>
    rw [cff]
    cases (x == 1) with
    | true =>
      rw [ctt]
      obtain ⟨⟨r', m'⟩, q1, q2⟩ := loop_ex (f := spec_l6Mutate_l1 (s, t) (x, r1)) (fun s => s.length ≤ 6) (fun s => 6 - s.length) (fun o => o.1 = r1 ∧ o.2.1.length ≤ 6 ∧ o.2.2 = t) (by
        intro v hv
        unfold spec_l6Mutate_l1
        by_cases h2 : (v.length : Int) ≤ 5
        · left
          rw [cdec_pos h2, rq_pos (by simp [bound]; omega)]
          exact ⟨_, rfl, by simp; omega, by simp; omega⟩
        · right
          rw [cdec_neg h2]
          exact ⟨_, rfl, rfl, by (try dsimp only) <;> omega, rfl⟩) s (by (try dsimp only) <;> omega)
      dsimp only at q2
      obtain ⟨rfl, q3, q4⟩ := q2
      rw [← q4] at m2 m3
      exact ⟨_, _, q1, a1', q3, m2, m3⟩
    | false =>
      rw [cff]
      cases (x == 2) with
      | true =>
        rw [ctt]
        by_cases hl : (0 : Int) < t.length
        · obtain ⟨y, r2, e2, a2, _⟩ := num_adv (l := [0, 5, 1, 2, 3]) h1' (by simp)
          have gm := gt.resolve_right (by rintro rfl; simp at hl)
          rw [cdec_pos hl, e2, bind_s, rq_pos ⟨by omega, hl⟩]
          refine ⟨_, _, rfl, a1.trans a2 (by omega), by (try dsimp only) <;> omega, by (try dsimp only) <;> (rw [List.length_set]; omega), okR_set m3 ?_ _⟩
          obtain ⟨w1, w2, w3, w4⟩ := m3 _ gm
          exact ⟨w1, w2, w3, w4⟩
        · rw [cdec_neg hl]
          exact ⟨_, _, rfl, a1', by (try dsimp only) <;> omega, m2, m3⟩
      | false =>
        rw [cff]
        cases (x == 3) with
        | true =>
          rw [ctt]
          by_cases hl : (0 : Int) < t.length
          · rw [cdec_pos hl, rq_i64 (by omega) (by omega), rq_pos ⟨by omega, by omega⟩]
            have e : ((t.length : Int) - 1).toNat = t.length - 1 := by omega
            have gm := getD_mem (l := t) (i := t.length - 1) (d := (0, [], [], 0, [])) (by omega)
            rw [e]
            have gm' := m3 _ gm
            have es : ∀ v : RuleT, (t.set (t.length - 1) v).getD (t.length - 1) (0, [], [], 0, []) = v := fun v => by
              rw [List.getD_eq_getElem?_getD, List.getElem?_set_self (by omega)]
              rfl
            rw [es]
            by_cases h2 : (0 : Int) < (t.getD (t.length - 1) (0, [], [], 0, [])).2.1.length
            · obtain ⟨y, r2, e2, a2, _⟩ := num_adv (l := [-1, 5, 1, 0]) h1' (by simp)
              rw [cdec_pos h2, rq_i64 (by omega) (by omega), rq_pos ⟨by omega, by omega⟩, e2, bind_s, rq_pos ⟨by omega, h2⟩]
              refine ⟨_, _, rfl, a1.trans a2 (by omega), by (try dsimp only) <;> omega, by (try dsimp only) <;> (rw [List.length_set, List.length_set]; omega), okR_set (okR_set m3 gm' _) ?_ _⟩
              obtain ⟨w1, w2, w3, w4⟩ := gm'
              exact ⟨by (try dsimp only) <;> (rw [List.length_set]; omega), w2, w3, w4⟩
            · rw [cdec_neg h2]
              exact ⟨_, _, rfl, a1', by (try dsimp only) <;> omega, by (try dsimp only) <;> (rw [List.length_set]; omega), okR_set m3 gm' _⟩
          · rw [cdec_neg hl]
            exact ⟨_, _, rfl, a1', by (try dsimp only) <;> omega, m2, m3⟩
        | false =>
          rw [cff]
          cases (x == 4) with
          | true =>
            rw [ctt]
            by_cases hl : (0 : Int) < t.length
            · obtain ⟨y, r2, e2, a2, _⟩ := num_adv (l := [1001, -1001, 1000]) h1' (by simp)
              have gm := gt.resolve_right (by rintro rfl; simp at hl)
              rw [cdec_pos hl, e2, bind_s, rq_pos ⟨by omega, hl⟩]
              refine ⟨_, _, rfl, a1.trans a2 (by omega), by (try dsimp only) <;> omega, by (try dsimp only) <;> (rw [List.length_set]; omega), okR_set m3 ?_ _⟩
              obtain ⟨w1, w2, w3, w4⟩ := m3 _ gm
              exact ⟨w1, w2, w3, w4⟩
            · rw [cdec_neg hl]
              exact ⟨_, _, rfl, a1', by (try dsimp only) <;> omega, m2, m3⟩
          | false =>
            rw [cff]
            cases (x == 5) with
            | true =>
              rw [ctt]
              exact ⟨_, _, rfl, a1', by simp, by simp, by simp⟩
            | false =>
              rw [cff]
              exact ⟨_, _, rfl, a1', by (try dsimp only) <;> omega, m2, m3⟩

end Go.AE.Y
