/-
  Plain laws: parts are weaker; cubes restrict solutions; minimal problems are their own cores; parts are maximal.
-/
import Derived.Test.YtmpjmcflooeigaaP11D
import Derived.Test.YtmpjmcflooeigaaP11F
namespace Go.AE.Y
open Go Go.AE

/-! ### Comparisons -/

theorem Equal_Term_self (a : List (Int × Int)) (h : a.length ≤ 4000000000) : slices_Equal_impl_Term a a = some true := by
  unfold slices_Equal_impl_Term
  rw [cbne_neg rfl, loop_all a.length (fun _ => true) false true]
  · rw [List.all_eq_true.2 (fun _ _ => rfl)]; rfl
  · intro i hi _
    unfold slices_Equal_impl_Term_l1
    simp (disch := omega) only [cdec_pos, rq_pos, rq_i64, Int.toNat_natCast, beq_self_eq_true, Bool.and_self, cnt, ctt]
  · unfold slices_Equal_impl_Term_l1
    simp (disch := omega) only [cdec_neg]

theorem ConstraintSame_self (c : List (Int × Int) × Int) (h : c.1.length ≤ 4000000000) : impl_ConstraintSame c c = some true := by
  unfold impl_ConstraintSame
  rw [cbeq_pos rfl, Equal_Term_self _ h, bind_s]

theorem cpProblem_self (a : List (List (Int × Int) × Int)) (h : smallC a) : laws_cpProblem a a = some true := by
  have h1 := h.1
  unfold laws_cpProblem
  rw [cbne_neg rfl, loop_all a.length (fun _ => true) false true]
  · rw [List.all_eq_true.2 (fun _ _ => rfl)]; rfl
  · intro i hi _
    have h2 := h.2 _ (getD_mem (d := ([], 0)) hi)
    unfold laws_cpProblem_l1
    rw [cdec_pos (by omega), rq_pos ⟨by omega, by omega⟩, rq_pos ⟨by omega, by omega⟩, Int.toNat_natCast, ConstraintSame_self _ (by omega), bind_s, cnt, rq_i64 (by omega) (by omega), ctt]
  · unfold laws_cpProblem_l1
    rw [cdec_neg (by omega)]

/-! ### Parts -/

theorem keepB_of {c : List Int} {n : Int} (h1 : ∀ x ∈ c, 0 ≤ x ∧ x < n) (h2 : c.Pairwise (· < ·)) : keepB c n = true := by
  unfold keepB
  rw [List.all_eq_true]
  intro i hi
  have hi := List.mem_range.1 hi
  unfold keepAt
  have h3 := h1 _ (getD_mem (d := 0) hi)
  rw [decide_eq_true h3.1, decide_eq_true h3.2, Bool.and_self, Bool.true_and]
  by_cases h0 : i = 0
  · subst h0; rfl
  · have h4 : c.getD (i - 1) 0 < c.getD i 0 := by
      rw [List.getD_eq_getElem?_getD, List.getD_eq_getElem?_getD, List.getElem?_eq_getElem (by omega), List.getElem?_eq_getElem hi]
      exact List.pairwise_iff_getElem.1 h2 (i - 1) i (by omega) hi (by omega)
    rw [decide_eq_true h4, Bool.or_true]

/-! ### Cubes restrict solutions -/

theorem law_FnCubeProblem {a b : List Int} (ha : ∀ x ∈ a, 0 ≤ x ∧ x ≤ 255) (hb : ∀ x ∈ b, 0 ≤ x ∧ x ≤ 255) : laws_FnCubeProblem a b = some true := by
  unfold laws_FnCubeProblem
  by_cases h0 : 1048576 < (a.length : Int)
  · rw [cdec_pos h0]
  rw [cdec_neg h0]
  by_cases h0' : 1048576 < (b.length : Int)
  · rw [cdec_pos h0']
  rw [cdec_neg h0']
  obtain ⟨l, c, h1, h2, h3, h4⟩ := spec_DrawCubeProblem_ok ha
  obtain ⟨c', v, h5, h6, h7⟩ := spec_DrawCubeHolds_ok hb
  have hs : smallC l := ⟨by omega, fun x hx => by have := h3 x hx; omega⟩
  have hs2 : smallC (cubeProbB l c).2 := cubeProbB_small hs
  rw [h1, bind_s, h5, bind_s]
  dsimp only
  rw [impl_CubeProblem_eq l c hs (by omega), bind_s, spec_CubeProblem_eq l c hs (by omega), bind_s]
  simp only [bne_self_eq_false, beq_self_eq_true, cff, ctt]
  rw [cpProblem_self _ hs2, bind_s, cnt]
  by_cases hv : v.length = 12
  · rw [cbne_neg (by omega), impl_SatisfiesAll_eq hs2, bind_s, impl_SatisfiesAll_eq hs, bind_s, impl_CubeHolds_eq c v (by omega), bind_s]
    unfold cubeProbB cubeHoldsB
    cases hq : (probB l && (cubeB c && decide (l.length + c.length ≤ 400))) with
    | false => rw [cff]; simp only [cnf, bind_s]
    | true =>
      rw [ctt]
      simp only [Bool.and_eq_true, decide_eq_true_eq] at hq
      obtain ⟨hp, hc, hl⟩ := hq
      dsimp only
      rw [cnt, probB_under hp (fun n hn => isLit_iff.2 (cubeB_lits hc n hn)) (by omega), hp, hc, decide_eq_true hv, all_under]
      simp only [Bool.true_and]
      cases l.all (evalB v) with
      | true => rw [ctt, Bool.true_and, bind_s, beq_self_eq_true]
      | false => rw [cff, Bool.false_and, beq_self_eq_true]
  · rw [cbne_pos (by omega)]
    cases (cubeProbB l c).1 with
    | true => simp only [cnt, bind_s]
    | false => simp only [cnf, bind_s]

/-! ### Draws -/

/-! ### Minimal problems are their own cores -/

theorem coreF_all {l : List (List (Int × Int) × Int)} (h : needB l = true) : ∀ t, t ≤ l.length → coreF l l.length t = idsB l.length
  | 0, _ => rfl
  | t + 1, ht => by
    unfold coreF coreStep
    rw [coreF_all h t (by omega)]
    unfold needB at h
    have := List.all_eq_true.1 h (l.length - 1 - t) (List.mem_range.2 (by omega))
    rw [show ((l.length : Int) - 1 - t) = ((l.length - 1 - t : Nat) : Int) by omega, this, ctt]

/-! ### Parts are maximal -/

theorem maxF_pre {l : List (List (Int × Int) × Int)} {t : Nat} : ∀ n, t ≤ n → ∃ rest, maxF l n = maxF l t ++ rest ∧ ∀ x ∈ rest, (t : Int) ≤ x
  | 0, h => ⟨[], by rw [show t = 0 by omega]; simp, fun x hx => by cases hx⟩
  | n + 1, h => by
    rcases Nat.lt_or_ge n t with h1 | h1
    · rw [show t = n + 1 by omega]
      exact ⟨[], by simp, fun x hx => by cases hx⟩
    · obtain ⟨rest, h2, h3⟩ := maxF_pre n h1
      have hn : maxF l (n + 1) = bif openB (partB l (maxF l n ++ [(n : Int)])) then maxF l n ++ [(n : Int)] else maxF l n := rfl
      cases hq : openB (partB l (maxF l n ++ [(n : Int)])) with
      | true =>
        rw [hn, hq, ctt, h2]
        refine ⟨rest ++ [(n : Int)], by simp, fun x hx => ?_⟩
        rcases List.mem_append.1 hx with hx | hx
        · exact h3 x hx
        · rw [List.mem_singleton.1 hx]; omega
      | false =>
        rw [hn, hq, cff, h2]
        exact ⟨rest, rfl, h3⟩

theorem maxF_asc {l : List (List (Int × Int) × Int)} : ∀ n, (maxF l n).Pairwise (· < ·)
  | 0 => List.Pairwise.nil
  | n + 1 => by
    have hn : maxF l (n + 1) = bif openB (partB l (maxF l n ++ [(n : Int)])) then maxF l n ++ [(n : Int)] else maxF l n := rfl
    rw [hn]
    cases openB (partB l (maxF l n ++ [(n : Int)])) with
    | true =>
      rw [ctt, List.pairwise_append]
      refine ⟨maxF_asc n, List.pairwise_singleton _ _, fun x hx y hy => ?_⟩
      rw [List.mem_singleton.1 hy]
      exact ((maxF_in n).1 x hx).2
    | false => rw [cff]; exact maxF_asc n

theorem openB_nil : openB [] = true := by
  unfold openB
  rw [List.any_eq_true]
  exact ⟨0, List.mem_range.2 (by omega), rfl⟩

theorem maxF_open {l : List (List (Int × Int) × Int)} : ∀ n, openB (partB l (maxF l n)) = true
  | 0 => openB_nil
  | n + 1 => by
    have hn : maxF l (n + 1) = bif openB (partB l (maxF l n ++ [(n : Int)])) then maxF l n ++ [(n : Int)] else maxF l n := rfl
    rw [hn]
    cases hq : openB (partB l (maxF l n ++ [(n : Int)])) with
    | true => rw [ctt]; exact hq
    | false => rw [cff]; exact maxF_open n

theorem partB_ids (l : List (List (Int × Int) × Int)) : partB l (idsB l.length) = l := by
  unfold partB idsB
  rw [List.map_map]
  apply List.ext_getElem
  · simp
  · intro i h1 h2
    simp [List.getD_eq_getElem?_getD, h2]

theorem maxF_full {l : List (List (Int × Int) × Int)} : ((maxF l l.length).length = l.length) ↔ openB l = true := by
  constructor
  · intro h
    have key : ∀ t, t ≤ l.length → (maxF l t).length = t → maxF l t = idsB t := by
      intro t
      induction t with
      | zero => intro _ _; rfl
      | succ t ih =>
        intro h1 h2
        have hn : maxF l (t + 1) = bif openB (partB l (maxF l t ++ [(t : Int)])) then maxF l t ++ [(t : Int)] else maxF l t := rfl
        have hle := (maxF_in (l := l) t).2
        cases hq : openB (partB l (maxF l t ++ [(t : Int)])) with
        | true =>
          rw [hn, hq, ctt] at h2 ⊢
          rw [List.length_append, List.length_singleton] at h2
          rw [ih (by omega) (by omega), idsB_succ]
        | false => rw [hn, hq, cff] at h2; omega
    have := maxF_open (l := l) l.length
    rwa [key _ (Nat.le_refl _) h, partB_ids] at this
  · intro h
    have key : ∀ t, t ≤ l.length → maxF l t = idsB t := by
      intro t
      induction t with
      | zero => intro _; rfl
      | succ t ih =>
        intro h1
        have hn : maxF l (t + 1) = bif openB (partB l (maxF l t ++ [(t : Int)])) then maxF l t ++ [(t : Int)] else maxF l t := rfl
        rw [hn, ih (by omega), ← idsB_succ, openB_sub (partB_mem (fun x hx => ?_)) h, ctt]
        have := idsB_mem.1 hx
        omega
    rw [key _ (Nat.le_refl _), idsB_len]

end Go.AE.Y
