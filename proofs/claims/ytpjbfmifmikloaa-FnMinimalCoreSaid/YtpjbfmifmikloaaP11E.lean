/-
  Plain laws: parts are weaker; cubes restrict solutions; minimal problems are their own cores; parts are maximal.
-/
import Derived.Test.YtpjbfmifmikloaaP11D
import Derived.Test.YtpjbfmifmikloaaP11F
namespace Go.AE.Y
open Go Go.AE

/-! ### Comparisons -/

/-! ### Parts -/

theorem solsB_sub {l m : List (List (Int × Int) × Int)} (h : ∀ x ∈ m, x ∈ l) : solsB l ≤ solsB m := by
  unfold solsB
  refine List.countP_mono_left (fun v _ hv => ?_)
  rw [List.all_eq_true] at hv ⊢
  exact fun x hx => hv x (h x hx)

theorem keepB_of {c : List Int} {n : Int} (h1 : ∀ x ∈ c, 0 ≤ x ∧ x < n) (h2 : c.Pairwise (· < ·)) : keepB c n = true := by
  unfold keepB
  rw [List.all_eq_true]
  intro i hi
  have hi := List.mem_range.1 hi
  unfold keepAt
  have h3 := h1 _ (getD_mem (d := 0) hi)
  rw [decide_eq_true h3.1, decide_eq_true h3.2, Bool.and_self, Bool.true_and]
  by_cases h0 : i = 0
  · subst h0; rfl
  · have h4 : c.getD (i - 1) 0 < c.getD i 0 := by
      rw [List.getD_eq_getElem?_getD, List.getD_eq_getElem?_getD, List.getElem?_eq_getElem (by omega), List.getElem?_eq_getElem hi]
      exact List.pairwise_iff_getElem.1 h2 (i - 1) i (by omega) hi (by omega)
    rw [decide_eq_true h4, Bool.or_true]

/-! ### Cubes restrict solutions -/

/-! ### Draws -/

theorem spec_l11Closed_ok {r : List Int × Int} (h : RdOk r 600000000) : ∃ r' l, spec_l11Closed r = some (r', l) ∧ Adv r r' 2002 ∧ l.length ≤ 16 ∧ ∀ x ∈ l, x.1.length ≤ 12 := by
  unfold spec_l11Closed
  obtain ⟨r1, l, e1, a1, m1, m1'⟩ := spec_l5Hard_ok (r := r) ⟨h.byte, h.len, h.low, by have := h.high; omega⟩
  have h1 : RdOk r1 600002000 := a1.ok h (by omega)
  obtain ⟨x, r2, e2, a2, _⟩ := pick_adv 3 (r := r1) ⟨h1.byte, h1.len, h1.low, by have := h1.high; omega⟩
  have h2 : RdOk r2 600002001 := a2.ok h1 (by omega)
  rw [e1, bind_s]
  dsimp only
  rw [e2, bind_s]
  dsimp only
  by_cases hx : 0 < x
  · obtain ⟨y, r3, e3, a3, y0, y1⟩ := pick_adv 4 (r := r2) ⟨h2.byte, h2.len, h2.low, by have := h2.high; omega⟩
    have y1 := y1 (by omega)
    rw [cdec_pos hx, e3, bind_s]
    dsimp only
    rw [rq_i64 (by omega) (by omega), rq_pos (by simp [bound]; omega), rq_i64 (by omega) (by omega), rq_pos (by simp [bound]; omega)]
    refine ⟨_, _, rfl, (a1.trans (a2.trans a3 (Int.le_refl _)) (by omega)), by simp; omega, fun z hz => ?_⟩
    rcases List.mem_append.1 hz with hz | hz
    · rw [List.mem_singleton.1 hz]; simp
    · rcases List.mem_append.1 hz with hz | hz
      · exact m1' z hz
      · rw [List.mem_singleton.1 hz]; simp
  · rw [cdec_neg hx]
    exact ⟨_, _, rfl, a1.trans a2 (by omega), by omega, m1'⟩

theorem spec_DrawMinimalCore_ok {a : List Int} (h : ∀ x ∈ a, 0 ≤ x ∧ x ≤ 255) : ∃ l, spec_DrawMinimalCore a = some l ∧ l.length ≤ 16 ∧ ∀ x ∈ l, x.1.length ≤ 15 := by
  unfold spec_DrawMinimalCore
  obtain ⟨r, e1, h1⟩ := open_ok h
  obtain ⟨r2, l, e2, a2, m2, m2'⟩ := spec_l11Closed_ok (r := r) ⟨h1.byte, h1.len, h1.low, by have := h1.high; omega⟩
  have h2 : RdOk r2 2002 := a2.ok h1 (by omega)
  obtain ⟨r3, l3, e3, a3, m3, m3'⟩ := spec_l3Mutate_ok (r := r2) (l := l) ⟨h2.byte, h2.len, h2.low, by have := h2.high; omega⟩ (by omega) m2'
  rw [e1, bind_s, e2, bind_s]
  dsimp only
  rw [e3, bind_s]
  exact ⟨l3, rfl, by omega, m3'⟩

/-! ### Minimal problems are their own cores -/

theorem coreF_all {l : List (List (Int × Int) × Int)} (h : needB l = true) : ∀ t, t ≤ l.length → coreF l l.length t = idsB l.length
  | 0, _ => rfl
  | t + 1, ht => by
    unfold coreF coreStep
    rw [coreF_all h t (by omega)]
    unfold needB at h
    have := List.all_eq_true.1 h (l.length - 1 - t) (List.mem_range.2 (by omega))
    rw [show ((l.length : Int) - 1 - t) = ((l.length - 1 - t : Nat) : Int) by omega, this, ctt]

/-! ### Parts are maximal -/

theorem maxF_pre {l : List (List (Int × Int) × Int)} {t : Nat} : ∀ n, t ≤ n → ∃ rest, maxF l n = maxF l t ++ rest ∧ ∀ x ∈ rest, (t : Int) ≤ x
  | 0, h => ⟨[], by rw [show t = 0 by omega]; simp, fun x hx => by cases hx⟩
  | n + 1, h => by
    rcases Nat.lt_or_ge n t with h1 | h1
    · rw [show t = n + 1 by omega]
      exact ⟨[], by simp, fun x hx => by cases hx⟩
    · obtain ⟨rest, h2, h3⟩ := maxF_pre n h1
      have hn : maxF l (n + 1) = bif openB (partB l (maxF l n ++ [(n : Int)])) then maxF l n ++ [(n : Int)] else maxF l n := rfl
      cases hq : openB (partB l (maxF l n ++ [(n : Int)])) with
      | true =>
        rw [hn, hq, ctt, h2]
        refine ⟨rest ++ [(n : Int)], by simp, fun x hx => ?_⟩
        rcases List.mem_append.1 hx with hx | hx
        · exact h3 x hx
        · rw [List.mem_singleton.1 hx]; omega
      | false =>
        rw [hn, hq, cff, h2]
        exact ⟨rest, rfl, h3⟩

theorem maxF_asc {l : List (List (Int × Int) × Int)} : ∀ n, (maxF l n).Pairwise (· < ·)
  | 0 => List.Pairwise.nil
  | n + 1 => by
    have hn : maxF l (n + 1) = bif openB (partB l (maxF l n ++ [(n : Int)])) then maxF l n ++ [(n : Int)] else maxF l n := rfl
    rw [hn]
    cases openB (partB l (maxF l n ++ [(n : Int)])) with
    | true =>
      rw [ctt, List.pairwise_append]
      refine ⟨maxF_asc n, List.pairwise_singleton _ _, fun x hx y hy => ?_⟩
      rw [List.mem_singleton.1 hy]
      exact ((maxF_in n).1 x hx).2
    | false => rw [cff]; exact maxF_asc n

theorem openB_nil : openB [] = true := by
  unfold openB
  rw [List.any_eq_true]
  exact ⟨0, List.mem_range.2 (by omega), rfl⟩

theorem maxF_open {l : List (List (Int × Int) × Int)} : ∀ n, openB (partB l (maxF l n)) = true
  | 0 => openB_nil
  | n + 1 => by
    have hn : maxF l (n + 1) = bif openB (partB l (maxF l n ++ [(n : Int)])) then maxF l n ++ [(n : Int)] else maxF l n := rfl
    rw [hn]
    cases hq : openB (partB l (maxF l n ++ [(n : Int)])) with
    | true => rw [ctt]; exact hq
    | false => rw [cff]; exact maxF_open n

theorem partB_ids (l : List (List (Int × Int) × Int)) : partB l (idsB l.length) = l := by
  unfold partB idsB
  rw [List.map_map]
  apply List.ext_getElem
  · simp
  · intro i h1 h2
    simp [List.getD_eq_getElem?_getD, h2]

theorem maxF_full {l : List (List (Int × Int) × Int)} : ((maxF l l.length).length = l.length) ↔ openB l = true := by
  constructor
  · intro h
    have key : ∀ t, t ≤ l.length → (maxF l t).length = t → maxF l t = idsB t := by
      intro t
      induction t with
      | zero => intro _ _; rfl
      | succ t ih =>
        intro h1 h2
        have hn : maxF l (t + 1) = bif openB (partB l (maxF l t ++ [(t : Int)])) then maxF l t ++ [(t : Int)] else maxF l t := rfl
        have hle := (maxF_in (l := l) t).2
        cases hq : openB (partB l (maxF l t ++ [(t : Int)])) with
        | true =>
          rw [hn, hq, ctt] at h2 ⊢
          rw [List.length_append, List.length_singleton] at h2
          rw [ih (by omega) (by omega), idsB_succ]
        | false => rw [hn, hq, cff] at h2; omega
    have := maxF_open (l := l) l.length
    rwa [key _ (Nat.le_refl _) h, partB_ids] at this
  · intro h
    have key : ∀ t, t ≤ l.length → maxF l t = idsB t := by
      intro t
      induction t with
      | zero => intro _; rfl
      | succ t ih =>
        intro h1
        have hn : maxF l (t + 1) = bif openB (partB l (maxF l t ++ [(t : Int)])) then maxF l t ++ [(t : Int)] else maxF l t := rfl
        rw [hn, ih (by omega), ← idsB_succ, openB_sub (partB_mem (fun x hx => ?_)) h, ctt]
        have := idsB_mem.1 hx
        omega
    rw [key _ (Nat.le_refl _), idsB_len]

end Go.AE.Y
