/-
  Plain laws: parts are weaker; cubes restrict solutions; minimal problems are their own cores; parts are maximal.
-/
import Derived.Test.YtmpjmcflooeigaaP11D
import Derived.Test.YtmpjmcflooeigaaP11F
namespace Go.AE.Y
open Go Go.AE

/-! ### Comparisons -/

theorem Equal_Term_self (a : List (Int × Int)) (h : a.length ≤ 4000000000) : slices_Equal_impl_Term a a = some true := by
  unfold slices_Equal_impl_Term
  rw [cbne_neg rfl, loop_all a.length (fun _ => true) false true]
  · rw [List.all_eq_true.2 (fun _ _ => rfl)]; rfl
  · intro i hi _
    unfold slices_Equal_impl_Term_l1
    simp (disch := omega) only [cdec_pos, rq_pos, rq_i64, Int.toNat_natCast, beq_self_eq_true, Bool.and_self, cnt, ctt]
  · unfold slices_Equal_impl_Term_l1
    simp (disch := omega) only [cdec_neg]

theorem ConstraintSame_self (c : List (Int × Int) × Int) (h : c.1.length ≤ 4000000000) : impl_ConstraintSame c c = some true := by
  unfold impl_ConstraintSame
  rw [cbeq_pos rfl, Equal_Term_self _ h, bind_s]

theorem cpProblem_self (a : List (List (Int × Int) × Int)) (h : smallC a) : laws_cpProblem a a = some true := by
  have h1 := h.1
  unfold laws_cpProblem
  rw [cbne_neg rfl, loop_all a.length (fun _ => true) false true]
  · rw [List.all_eq_true.2 (fun _ _ => rfl)]; rfl
  · intro i hi _
    have h2 := h.2 _ (getD_mem (d := ([], 0)) hi)
    unfold laws_cpProblem_l1
    rw [cdec_pos (by omega), rq_pos ⟨by omega, by omega⟩, rq_pos ⟨by omega, by omega⟩, Int.toNat_natCast, ConstraintSame_self _ (by omega), bind_s, cnt, rq_i64 (by omega) (by omega), ctt]
  · unfold laws_cpProblem_l1
    rw [cdec_neg (by omega)]

/-! ### Parts -/

theorem solsB_sub {l m : List (List (Int × Int) × Int)} (h : ∀ x ∈ m, x ∈ l) : solsB l ≤ solsB m := by
  unfold solsB
  refine List.countP_mono_left (fun v _ hv => ?_)
  rw [List.all_eq_true] at hv ⊢
  exact fun x hx => hv x (h x hx)

theorem keepB_of {c : List Int} {n : Int} (h1 : ∀ x ∈ c, 0 ≤ x ∧ x < n) (h2 : c.Pairwise (· < ·)) : keepB c n = true := by
  unfold keepB
  rw [List.all_eq_true]
  intro i hi
  have hi := List.mem_range.1 hi
  unfold keepAt
  have h3 := h1 _ (getD_mem (d := 0) hi)
  rw [decide_eq_true h3.1, decide_eq_true h3.2, Bool.and_self, Bool.true_and]
  by_cases h0 : i = 0
  · subst h0; rfl
  · have h4 : c.getD (i - 1) 0 < c.getD i 0 := by
      rw [List.getD_eq_getElem?_getD, List.getD_eq_getElem?_getD, List.getElem?_eq_getElem (by omega), List.getElem?_eq_getElem hi]
      exact List.pairwise_iff_getElem.1 h2 (i - 1) i (by omega) hi (by omega)
    rw [decide_eq_true h4, Bool.or_true]

theorem spec_DrawSubProblem_ok {a : List Int} (h : ∀ x ∈ a, 0 ≤ x ∧ x ≤ 255) : ∃ l c, spec_DrawSubProblem a = some (l, c) ∧ l.length ≤ 8 ∧ (∀ x ∈ l, x.1.length ≤ 15) ∧ c.length ≤ 9 := by
  unfold spec_DrawSubProblem
  obtain ⟨r, e1, h1⟩ := open_ok h
  obtain ⟨r2, l, e2, a2, m2, m2'⟩ := spec_l3Problem_ok (r := r) ⟨h1.byte, h1.len, h1.low, by have := h1.high; omega⟩
  have h2 : RdOk r2 1000 := a2.ok h1 (by omega)
  obtain ⟨r3, l3, e3, a3, m3, m3'⟩ := spec_l3Mutate_ok (r := r2) (l := l) ⟨h2.byte, h2.len, h2.low, by have := h2.high; omega⟩ (by omega) m2'
  have h3 : RdOk r3 1010 := a3.ok h2 (by omega)
  rw [e1, bind_s, e2, bind_s]
  dsimp only
  rw [e3, bind_s]
  have key := loop_ex (f := spec_DrawSubProblem_l1 (r3, l3)) (fun s => ∃ i : Nat, s.1 = i ∧ i ≤ l3.length ∧ RdOk s.2.1 (1010 + i) ∧ s.2.2.length ≤ i) (fun s => l3.length - s.1.toNat)
    (fun o => o.1 = l3 ∧ o.2.length ≤ 9) ?_ ((0 : Int), r3, ([] : List Int)) ⟨0, rfl, by omega, ⟨h3.byte, h3.len, h3.low, by have := h3.high; (try dsimp only) <;> omega⟩, by simp⟩
  · obtain ⟨⟨l', c⟩, q1, q2, q3⟩ := key
    dsimp only at q1 q2 q3 ⊢
    subst q2
    exact ⟨l', c, q1, by omega, m3', q3⟩
  rintro ⟨s, q, out⟩ ⟨i, rfl, hi, hq, ho⟩
  dsimp only at hq ho ⊢
  unfold spec_DrawSubProblem_l1
  dsimp only
  rcases Nat.lt_or_ge i l3.length with h6 | h6
  · left
    obtain ⟨x, q1, e4, a4, _⟩ := pick_adv 2 (r := q) ⟨hq.byte, hq.len, hq.low, by have := hq.high; omega⟩
    have hq1 : RdOk q1 (1010 + i + 1) := a4.ok hq (by omega)
    rw [cdec_pos (by omega), e4, bind_s]
    dsimp only
    cases (x == 0) with
    | true =>
      rw [ctt, rq_pos (by simp [bound]; omega), rq_i64 (by omega) (by omega)]
      exact ⟨_, rfl, ⟨i + 1, by simp, by omega, ⟨hq1.byte, hq1.len, hq1.low, by have := hq1.high; (try dsimp only) <;> omega⟩, by simp; omega⟩, by (try dsimp only) <;> omega⟩
    | false =>
      rw [cff, rq_i64 (by omega) (by omega)]
      exact ⟨_, rfl, ⟨i + 1, by simp, by omega, ⟨hq1.byte, hq1.len, hq1.low, by have := hq1.high; (try dsimp only) <;> omega⟩, by (try dsimp only) <;> omega⟩, by (try dsimp only) <;> omega⟩
  · right
    rw [cdec_neg (by omega)]
    unfold spec_DrawSubProblem_j1
    dsimp only
    obtain ⟨x, q1, e4, a4, _⟩ := pick_adv 12 (r := q) ⟨hq.byte, hq.len, hq.low, by have := hq.high; omega⟩
    have hq1 : RdOk q1 (1010 + i + 1) := a4.ok hq (by omega)
    rw [e4, bind_s]
    dsimp only
    unfold spec_DrawSubProblem_j2
    cases (x == 0) with
    | true =>
      obtain ⟨y, q2, e5, _, _⟩ := num_adv (l := [0, -1, 400, 9223372036854775807]) (r := q1) ⟨hq1.byte, hq1.len, hq1.low, by have := hq1.high; omega⟩ (by decide)
      rw [ctt, e5, bind_s]
      dsimp only
      rw [rq_pos (by simp [bound]; omega)]
      exact ⟨_, rfl, rfl, by simp; omega⟩
    | false =>
      rw [cff]
      exact ⟨_, rfl, rfl, by (try dsimp only) <;> omega⟩

theorem law_FnSubProblem {a : List Int} (ha : ∀ x ∈ a, 0 ≤ x ∧ x ≤ 255) : laws_FnSubProblem a = some true := by
  unfold laws_FnSubProblem
  by_cases h0 : 1048576 < (a.length : Int)
  · rw [cdec_pos h0]
  rw [cdec_neg h0]
  obtain ⟨l, c, h1, h2, h3, h4⟩ := spec_DrawSubProblem_ok ha
  have hs : smallC l := ⟨by omega, fun x hx => by have := h3 x hx; omega⟩
  have hs2 : smallC (subProbB l c).2 := subProbB_small hs (by omega)
  rw [h1, bind_s]
  dsimp only
  rw [impl_SubProblem_eq l c hs (by omega), bind_s, spec_SubProblem_eq l c hs (by omega), bind_s]
  simp only [bne_self_eq_false, beq_self_eq_true, cff, ctt]
  rw [cpProblem_self _ hs2, bind_s, cnt]
  unfold subProbB at hs2 ⊢
  cases hq : (probB l && keepB c l.length) with
  | false => rw [cff]; simp only [cnf, bind_s]
  | true =>
    rw [hq, ctt] at hs2
    rw [ctt]
    simp only [Bool.and_eq_true] at hq
    have hs3 : smallC (partB l c) := hs2
    have hin : ∀ x ∈ c, 0 ≤ x ∧ x < l.length := fun x hx => by
      obtain ⟨j, hj, rfl⟩ := List.mem_iff_getElem.1 hx
      have := keepB_in hq.2 j hj
      rwa [List.getD_eq_getElem?_getD, List.getElem?_eq_getElem hj] at this
    dsimp only
    rw [cnt, impl_CountSolutions_eq hs hq.1, bind_s, impl_CountSolutions_eq hs3 (partB_prob hq.1 hin (by omega)), bind_s, cdec_pos (by have := solsB_sub (partB_mem hin); omega)]
    simp [partB]

/-! ### Cubes restrict solutions -/

/-! ### Draws -/

/-! ### Minimal problems are their own cores -/

theorem coreF_all {l : List (List (Int × Int) × Int)} (h : needB l = true) : ∀ t, t ≤ l.length → coreF l l.length t = idsB l.length
  | 0, _ => rfl
  | t + 1, ht => by
    unfold coreF coreStep
    rw [coreF_all h t (by omega)]
    unfold needB at h
    have := List.all_eq_true.1 h (l.length - 1 - t) (List.mem_range.2 (by omega))
    rw [show ((l.length : Int) - 1 - t) = ((l.length - 1 - t : Nat) : Int) by omega, this, ctt]

/-! ### Parts are maximal -/

theorem maxF_pre {l : List (List (Int × Int) × Int)} {t : Nat} : ∀ n, t ≤ n → ∃ rest, maxF l n = maxF l t ++ rest ∧ ∀ x ∈ rest, (t : Int) ≤ x
  | 0, h => ⟨[], by rw [show t = 0 by omega]; simp, fun x hx => by cases hx⟩
  | n + 1, h => by
    rcases Nat.lt_or_ge n t with h1 | h1
    · rw [show t = n + 1 by omega]
      exact ⟨[], by simp, fun x hx => by cases hx⟩
    · obtain ⟨rest, h2, h3⟩ := maxF_pre n h1
      have hn : maxF l (n + 1) = bif openB (partB l (maxF l n ++ [(n : Int)])) then maxF l n ++ [(n : Int)] else maxF l n := rfl
      cases hq : openB (partB l (maxF l n ++ [(n : Int)])) with
      | true =>
        rw [hn, hq, ctt, h2]
        refine ⟨rest ++ [(n : Int)], by simp, fun x hx => ?_⟩
        rcases List.mem_append.1 hx with hx | hx
        · exact h3 x hx
        · rw [List.mem_singleton.1 hx]; omega
      | false =>
        rw [hn, hq, cff, h2]
        exact ⟨rest, rfl, h3⟩

theorem maxF_asc {l : List (List (Int × Int) × Int)} : ∀ n, (maxF l n).Pairwise (· < ·)
  | 0 => List.Pairwise.nil
  | n + 1 => by
    have hn : maxF l (n + 1) = bif openB (partB l (maxF l n ++ [(n : Int)])) then maxF l n ++ [(n : Int)] else maxF l n := rfl
    rw [hn]
    cases openB (partB l (maxF l n ++ [(n : Int)])) with
    | true =>
      rw [ctt, List.pairwise_append]
      refine ⟨maxF_asc n, List.pairwise_singleton _ _, fun x hx y hy => ?_⟩
      rw [List.mem_singleton.1 hy]
      exact ((maxF_in n).1 x hx).2
    | false => rw [cff]; exact maxF_asc n

theorem openB_nil : openB [] = true := by
  unfold openB
  rw [List.any_eq_true]
  exact ⟨0, List.mem_range.2 (by omega), rfl⟩

theorem maxF_open {l : List (List (Int × Int) × Int)} : ∀ n, openB (partB l (maxF l n)) = true
  | 0 => openB_nil
  | n + 1 => by
    have hn : maxF l (n + 1) = bif openB (partB l (maxF l n ++ [(n : Int)])) then maxF l n ++ [(n : Int)] else maxF l n := rfl
    rw [hn]
    cases hq : openB (partB l (maxF l n ++ [(n : Int)])) with
    | true => rw [ctt]; exact hq
    | false => rw [cff]; exact maxF_open n

theorem partB_ids (l : List (List (Int × Int) × Int)) : partB l (idsB l.length) = l := by
  unfold partB idsB
  rw [List.map_map]
  apply List.ext_getElem
  · simp
  · intro i h1 h2
    simp [List.getD_eq_getElem?_getD, h2]

theorem maxF_full {l : List (List (Int × Int) × Int)} : ((maxF l l.length).length = l.length) ↔ openB l = true := by
  constructor
  · intro h
    have key : ∀ t, t ≤ l.length → (maxF l t).length = t → maxF l t = idsB t := by
      intro t
      induction t with
      | zero => intro _ _; rfl
      | succ t ih =>
        intro h1 h2
        have hn : maxF l (t + 1) = bif openB (partB l (maxF l t ++ [(t : Int)])) then maxF l t ++ [(t : Int)] else maxF l t := rfl
        have hle := (maxF_in (l := l) t).2
        cases hq : openB (partB l (maxF l t ++ [(t : Int)])) with
        | true =>
          rw [hn, hq, ctt] at h2 ⊢
          rw [List.length_append, List.length_singleton] at h2
          rw [ih (by omega) (by omega), idsB_succ]
        | false => rw [hn, hq, cff] at h2; omega
    have := maxF_open (l := l) l.length
    rwa [key _ (Nat.le_refl _) h, partB_ids] at this
  · intro h
    have key : ∀ t, t ≤ l.length → maxF l t = idsB t := by
      intro t
      induction t with
      | zero => intro _; rfl
      | succ t ih =>
        intro h1
        have hn : maxF l (t + 1) = bif openB (partB l (maxF l t ++ [(t : Int)])) then maxF l t ++ [(t : Int)] else maxF l t := rfl
        rw [hn, ih (by omega), ← idsB_succ, openB_sub (partB_mem (fun x hx => ?_)) h, ctt]
        have := idsB_mem.1 hx
        omega
    rw [key _ (Nat.le_refl _), idsB_len]

end Go.AE.Y
