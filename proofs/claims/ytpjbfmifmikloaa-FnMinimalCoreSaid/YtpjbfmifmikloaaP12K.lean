/-
  Plain laws: counting splits over cubes.
-/
import Derived.Test.YtpjbfmifmikloaaP11V
import Derived.Test.YtpjbfmifmikloaaP12P
namespace Go.AE.Y
open Go Go.AE

/-! ### Assignments by number -/

theorem impl_numbered_ok {n : Int} (h : 0 ≤ n ∧ n ≤ 100000) : ∃ v, impl_numbered n = some v ∧ v.length = 12 := by
  unfold impl_numbered
  rw [rq_pos (by simp [bound])]
  refine loop_ex (fun s : Int × List Bool => ∃ i : Nat, s.1 = i ∧ i ≤ 12 ∧ s.2.length = 12) (fun s => 12 - s.1.toNat) (fun v : List Bool => v.length = 12) ?_ _ ⟨0, rfl, by omega, by simp⟩
  rintro ⟨s, out⟩ ⟨i, rfl, hi, ho⟩
  dsimp only at ho ⊢
  unfold impl_numbered_l1
  have e12 : ((List.replicate (12 : Int).toNat false).length : Int) = 12 := by simp
  dsimp only
  rw [e12]
  rcases Nat.lt_or_ge i 12 with h1 | h1
  · left
    have hp : (0 : Int) ≤ n / 2 ^ ((11 : Int) - i).toNat := Int.ediv_nonneg h.1 (Int.le_of_lt (Int.pow_pos (by omega)))
    rw [cdec_pos (by omega), rq_i64 (by omega) (by omega), rq_pos ⟨⟨by omega, by omega⟩, h.1⟩, rq_pos ⟨hp, by omega⟩, rq_pos ⟨by omega, by omega⟩, rq_i64 (by omega) (by omega)]
    exact ⟨_, rfl, ⟨i + 1, by simp, by omega, by simp [ho]⟩, by dsimp only; omega⟩
  · right
    rw [cdec_neg (by omega)]
    exact ⟨_, rfl, ho⟩

noncomputable def numB (i : Nat) : List Bool := (impl_numbered i).getD []
theorem impl_numbered_eq {i : Nat} (h : i ≤ 100000) : impl_numbered i = some (numB i) ∧ (numB i).length = 12 := by
  obtain ⟨v, h1, h2⟩ := impl_numbered_ok (n := i) ⟨by omega, by omega⟩
  unfold numB
  rw [h1]
  exact ⟨rfl, h2⟩

/-- All assignments. -/
noncomputable def allB : List (List Bool) := (List.range 4096).map numB
noncomputable def solsB (l : List (List (Int × Int) × Int)) : Nat := allB.countP (fun v => l.all (evalB v))

theorem allB_len : allB.length = 4096 := by simp [allB]
theorem allB_12 : ∀ v ∈ allB, v.length = 12 := by
  intro v hv
  obtain ⟨i, hi, rfl⟩ := List.mem_map.1 hv
  exact (impl_numbered_eq (by have := List.mem_range.1 hi; omega)).2

theorem impl_CountSolutions_eq {l : List (List (Int × Int) × Int)} (h : smallC l) (hp : probB l = true) : impl_CountSolutions l = some (solsB l : Int) := by
  unfold impl_CountSolutions
  rw [impl_ProblemValid_eq l h, bind_s, hp, cnt]
  refine loop_fn (fun s : Int × Int => ∃ i : Nat, s.2 = i ∧ i ≤ 4096 ∧ s.1 = ((allB.take i).countP (fun v => l.all (evalB v)) : Nat)) (fun s => 4096 - s.2.toNat) (fun _ => (solsB l : Int)) ?_ _ ⟨0, rfl, by omega, by simp⟩
  rintro ⟨k, s⟩ ⟨i, rfl, hi, hk⟩
  dsimp only at hk ⊢
  subst hk
  unfold impl_CountSolutions_l1
  dsimp only
  rcases Nat.lt_or_ge i 4096 with h1 | h1
  · left
    obtain ⟨n1, n2⟩ := impl_numbered_eq (i := i) (by omega)
    have hle : (allB.take i).countP (fun v => l.all (evalB v)) ≤ 4096 := by
      refine Nat.le_trans List.countP_le_length ?_
      rw [List.length_take]; omega
    have hg : allB.getD i [] = numB i := by
      simp [allB, List.getD_eq_getElem?_getD, h1]
    have ht : allB.take (i + 1) = allB.take i ++ [numB i] := by rw [take_snoc [] (by rw [allB_len]; exact h1), hg]
    rw [cdec_pos (by omega), n1, bind_s, impl_satisfies_eq h (probB_all hp) n2, bind_s]
    cases hq : l.all (evalB (numB i)) with
    | true =>
      rw [ctt, rq_i64 (by omega) (by omega), rq_i64 (by omega) (by omega)]
      refine ⟨_, rfl, ⟨i + 1, by simp, by omega, ?_⟩, by dsimp only; omega, rfl⟩
      dsimp only
      rw [ht, List.countP_append, show List.countP (fun v => l.all (evalB v)) [numB i] = 1 from by rw [List.countP_cons, hq]; rfl]
      omega
    | false =>
      rw [cff, rq_i64 (by omega) (by omega)]
      refine ⟨_, rfl, ⟨i + 1, by simp, by omega, ?_⟩, by dsimp only; omega, rfl⟩
      dsimp only
      rw [ht, List.countP_append, show List.countP (fun v => l.all (evalB v)) [numB i] = 0 from by rw [List.countP_cons, hq]; rfl]
      omega
  · right
    have : i = 4096 := by omega
    subst this
    rw [cdec_neg (by omega)]
    unfold solsB
    rw [List.take_of_length_le (by rw [allB_len]; omega)]

/-! ### Under a cube -/

theorem evalB_litC {v : List Bool} (n : Int) : evalB v (litC n) = litB v n := by
  show decide ((1 : Int) ≤ sumB v [(1, n)]) = litB v n
  have e : sumB v [(1, n)] = bif litB v n then 1 else 0 := by
    unfold sumB
    rw [List.foldl_cons, List.foldl_nil]
    rfl
  rw [e]
  by_cases hq : litB v n = true
  · rw [hq, ctt]; rfl
  · have hq' : litB v n = false := by simpa using hq
    rw [hq', cff]; rfl

theorem all_under {v : List Bool} (l : List (List (Int × Int) × Int)) (c : List Int) : (l ++ c.map litC).all (evalB v) = (l.all (evalB v) && c.all (litB v)) := by
  rw [List.all_append, List.all_map]
  congr 1
  congr 1
  funext n
  exact evalB_litC n

theorem conB_litC {n : Int} (h : isLit n = true) : conB (litC n) = true := by
  unfold conB litC termAt
  simp [List.range_succ, h]

theorem probB_under {l : List (List (Int × Int) × Int)} {c : List Int} (hp : probB l = true) (hc : ∀ n ∈ c, isLit n = true) (hl : l.length + c.length ≤ 400) : probB (l ++ c.map litC) = true := by
  have ha := probB_all hp
  unfold probB
  simp only [Bool.and_eq_true, decide_eq_true_eq, List.all_eq_true]
  refine ⟨fun x hx => ?_, by simp; omega⟩
  rcases List.mem_append.1 hx with hx | hx
  · exact ha x hx
  · obtain ⟨n, hn, rfl⟩ := List.mem_map.1 hx
    exact conB_litC (hc n hn)

/-- What the cubes' counts come to. -/
noncomputable def sumSols (l : List (List (Int × Int) × Int)) (cs : List (List Int)) : Nat := (cs.map (fun c => solsB (l ++ c.map litC))).foldr (· + ·) 0

theorem foldr_add : ∀ (m : List Nat) (z : Nat), m.foldr (· + ·) z = m.foldr (· + ·) 0 + z := fun m z => by
  induction m with
  | nil => simp
  | cons y r ih => rw [List.foldr_cons, List.foldr_cons, ih]; omega

theorem sumSols_snoc (l : List (List (Int × Int) × Int)) (cs : List (List Int)) (c : List Int) : sumSols l (cs ++ [c]) = sumSols l cs + solsB (l ++ c.map litC) := by
  unfold sumSols
  rw [List.map_append, List.foldr_append, List.map_cons, List.map_nil, List.foldr_cons, List.foldr_nil, Nat.add_zero]
  exact foldr_add _ _

theorem sum_count {α β : Type} (vs : List α) (cs : List β) (P : α → Bool) (q : α → β → Bool) (h : ∀ v ∈ vs, cs.countP (q v) = 1) :
    (cs.map (fun c => vs.countP (fun v => P v && q v c))).foldr (· + ·) 0 = vs.countP P := by
  induction vs with
  | nil =>
    clear h
    induction cs with
    | nil => rfl
    | cons c r ih => rw [List.map_cons, List.foldr_cons, ih]; rfl
  | cons v r ih =>
    have ih' := ih (fun w hw => h w (List.mem_cons_of_mem _ hw))
    have hv := h v List.mem_cons_self
    rw [List.countP_cons, ← ih']
    have key : ∀ cs : List β, (cs.map (fun c => (v :: r).countP (fun v => P v && q v c))).foldr (· + ·) 0 = (cs.map (fun c => r.countP (fun v => P v && q v c))).foldr (· + ·) 0 + (if P v = true then cs.countP (q v) else 0) := by
      intro cs
      induction cs with
      | nil => simp
      | cons c s ihs =>
        rw [List.map_cons, List.foldr_cons, ihs, List.map_cons, List.foldr_cons, List.countP_cons, List.countP_cons]
        cases P v <;> cases q v c <;> simp <;> omega
    rw [key, hv]

theorem sumSols_eq {l : List (List (Int × Int) × Int)} {vars : List Int} (hx : ∀ i, i < vars.length → 1 ≤ vars.getD i 0) : sumSols l (cubesB vars) = solsB l := by
  unfold sumSols solsB
  have : (fun c : List Int => List.countP (fun v => (l ++ c.map litC).all (evalB v)) allB) = fun c => allB.countP (fun v => l.all (evalB v) && c.all (litB v)) := by
    funext c
    congr 1
    funext v
    exact all_under l c
  rw [this]
  exact sum_count allB (cubesB vars) (fun v => l.all (evalB v)) (fun v c => c.all (litB v)) (fun v _ => count_one _ vars rfl hx)

/-! ### Draws -/

theorem spec_l5Hard_ok {r : List Int × Int} (h : RdOk r 700000000) : ∃ r' l, spec_l5Hard r = some (r', l) ∧ Adv r r' 2000 ∧ l.length ≤ 14 ∧ ∀ x ∈ l, x.1.length ≤ 12 := by
  unfold spec_l5Hard
  obtain ⟨r1, l0, e1, a1, m1, m1'⟩ := spec_l3Problem_ok (r := r) ⟨h.byte, h.len, h.low, by have := h.high; omega⟩
  have h1 : RdOk r1 700001000 := a1.ok h (by omega)
  obtain ⟨n, r2, e2, a2, m2⟩ := num_adv (l := [2, 4, 3, 6, 0]) (r := r1) ⟨h1.byte, h1.len, h1.low, by have := h1.high; omega⟩ (by decide)
  have hn : 0 ≤ n ∧ n ≤ 6 := by simp only [List.mem_cons, List.not_mem_nil, or_false] at m2; omega
  rw [e1, bind_s]
  dsimp only
  rw [e2, bind_s]
  have key := loop_ex (f := spec_l5Hard_l1) (fun s => 0 ≤ s.1 ∧ s.1 ≤ n ∧ Adv r s.2.1 (1001 + 51 * (n - s.1)) ∧ (s.2.2.length : Int) ≤ 8 + (n - s.1) ∧ ∀ x ∈ s.2.2, x.1.length ≤ 12) (fun s => s.1.toNat)
    (fun o => Adv r o.1 2000 ∧ o.2.length ≤ 14 ∧ ∀ x ∈ o.2, x.1.length ≤ 12) ?_ (n, r2, l0) ⟨by (try dsimp only) <;> omega, by (try dsimp only) <;> omega, a1.trans a2 (by (try dsimp only) <;> omega), by (try dsimp only) <;> omega, m1'⟩
  · obtain ⟨⟨r', l⟩, q1, q2⟩ := key
    exact ⟨r', l, q1, q2⟩
  rintro ⟨i, q, out⟩ ⟨g1, g2, g3, g4, g5⟩
  dsimp only at g1 g2 g3 g4 g5 ⊢
  have hq : RdOk q 700002000 := g3.ok h (by omega)
  unfold spec_l5Hard_l1
  dsimp only
  by_cases h6 : 0 < i
  · left
    obtain ⟨q1, b, ts, e3, a3, m3, m3'⟩ := spec_l1Draw_ok (r := q) (most := 4) ⟨hq.byte, hq.len, hq.low, by have := hq.high; omega⟩ ⟨by omega, by omega⟩
    have hq1 : RdOk q1 700003000 := a3.ok hq (by omega)
    obtain ⟨s, t1, t2, t3⟩ := spec_l1Total_ok (c := ts) (n := 12) m3 (by omega) m3' b
    obtain ⟨x, q2, e4, a4, x0, _⟩ := pick_adv (s / 2 + 1) (r := q1) ⟨hq1.byte, hq1.len, hq1.low, by have := hq1.high; omega⟩
    have hx : x ≤ s / 2 + 1 := by
      rename_i hx
      have := hx (by omega)
      omega
    rw [cdec_pos h6, e3, bind_s]
    dsimp only
    rw [t1, bind_s, rq_pos ⟨by omega, t2⟩, rq_i64 (by omega) (by omega), e4, bind_s]
    dsimp only
    rw [rq_i64 (by omega) (by omega), rq_pos (by simp [bound]; omega), rq_i64 (by omega) (by omega)]
    refine ⟨_, rfl, ⟨by (try dsimp only) <;> omega, by (try dsimp only) <;> omega, g3.trans (a3.trans a4 (Int.le_refl _)) (by (try dsimp only) <;> omega), by simp; omega, fun x hx => ?_⟩, by (try dsimp only) <;> omega⟩
    rcases List.mem_append.1 hx with hx | hx
    · exact g5 x hx
    · rw [List.mem_singleton.1 hx]; exact m3
  · right
    rw [cdec_neg h6]
    exact ⟨_, rfl, g3.trans (Adv.refl q (c := 0) (by omega)) (by omega), by (try dsimp only) <;> omega, g5⟩

theorem solsB_le (l : List (List (Int × Int) × Int)) : solsB l ≤ 4096 := by
  unfold solsB
  rw [← allB_len]
  exact List.countP_le_length

end Go.AE.Y
