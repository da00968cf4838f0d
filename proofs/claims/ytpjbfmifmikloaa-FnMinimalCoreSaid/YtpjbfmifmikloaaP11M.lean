/-
  Plain laws: cores are minimal.
-/
import Derived.Test.YtpjbfmifmikloaaP11E
namespace Go.AE.Y
open Go Go.AE

theorem partB_sub {l : List (List (Int × Int) × Int)} {c d : List Int} (h : ∀ x ∈ c, x ∈ d) (ho : openB (partB l d) = true) : openB (partB l c) = true := openB_sub (partB_mono h) ho

theorem coreF_closed {l : List (List (Int × Int) × Int)} (h : openB l = false) : ∀ t, openB (partB l (coreF l l.length t)) = false
  | 0 => by
    show openB (partB l (idsB l.length)) = false
    rw [partB_ids]
    exact h
  | t + 1 => by
    have hn : coreF l l.length (t + 1) = coreStep l (coreF l l.length t) ((l.length : Int) - 1 - t) := rfl
    rw [hn]
    unfold coreStep
    cases hq : openB (partB l (outB (coreF l l.length t) ((l.length : Int) - 1 - t))) with
    | true => rw [ctt]; exact coreF_closed h t
    | false => rw [cff]; exact hq

theorem coreF_step {l : List (List (Int × Int) × Int)} {n t : Nat} : (coreF l n (t + 1)).Sublist (coreF l n t) := coreStep_sub

theorem coreF_le {l : List (List (Int × Int) × Int)} {n t : Nat} : ∀ s, (coreF l n (t + s)).Sublist (coreF l n t)
  | 0 => List.Sublist.refl _
  | s + 1 => (coreF_step (t := t + s)).trans (coreF_le s)

/-- What is left is needed. -/
theorem coreF_need {l : List (List (Int × Int) × Int)} {k : Int} (hk : k ∈ coreF l l.length l.length) : openB (partB l (outB (coreF l l.length l.length) k)) = true := by
  have hin := coreF_in k hk
  have ht : ∃ t : Nat, t < l.length ∧ k = (l.length : Int) - 1 - t := ⟨(l.length - 1 - k.toNat), by omega, by omega⟩
  obtain ⟨t, ht, rfl⟩ := ht
  have h1 : (coreF l l.length l.length).Sublist (coreF l l.length (t + 1)) := by
    have := coreF_le (l := l) (n := l.length) (t := t + 1) (l.length - (t + 1))
    rwa [show t + 1 + (l.length - (t + 1)) = l.length by omega] at this
  have h2 : (coreF l l.length l.length).Sublist (coreF l l.length t) := h1.trans coreF_step
  have hn : coreF l l.length (t + 1) = coreStep l (coreF l l.length t) ((l.length : Int) - 1 - t) := rfl
  unfold coreStep at hn
  have hq : openB (partB l (outB (coreF l l.length t) ((l.length : Int) - 1 - t))) = true := by
    cases hq : openB (partB l (outB (coreF l l.length t) ((l.length : Int) - 1 - t))) with
    | true => rfl
    | false =>
      rw [hq, cff] at hn
      have := h1.subset hk
      rw [hn] at this
      exact absurd rfl (outB_sub _ this).2
  exact partB_sub (fun x hx => outB_mem (h2.subset (outB_sub x hx).1) (outB_sub x hx).2) hq

theorem partB_part_out {l : List (List (Int × Int) × Int)} {c : List Int} {p : Nat} (hn : c.Nodup) (hp : p < c.length) : ∀ y ∈ partB (partB l c) (outB (idsB (partB l c).length) p), y ∈ partB l (outB c (c.getD p 0)) := by
  intro y hy
  have hl : (partB l c).length = c.length := by simp [partB]
  unfold partB at hy
  obtain ⟨n, hn1, rfl⟩ := List.mem_map.1 hy
  obtain ⟨hn2, hn3⟩ := outB_sub n hn1
  have hl' : (List.map (fun k => l.getD k.toNat ([], 0)) c).length = c.length := by simp
  rw [hl'] at hn2
  obtain ⟨hn4, hn5⟩ := idsB_mem.1 hn2
  rw [getD_map (d := 0) (h := by omega)]
  refine List.mem_map.2 ⟨c.getD n.toNat 0, outB_mem (getD_mem (by omega)) (fun e => ?_), rfl⟩
  have g1 : c.getD n.toNat 0 = c[n.toNat]'(by omega) := by rw [List.getD_eq_getElem?_getD, List.getElem?_eq_getElem (by omega)]; rfl
  have g2 : c.getD p 0 = c[p] := by rw [List.getD_eq_getElem?_getD, List.getElem?_eq_getElem hp]; rfl
  rw [g1, g2] at e
  have := (List.getElem_inj hn).1 e
  omega

theorem core_min {l : List (List (Int × Int) × Int)} (hp : probB l = true) (ho : openB l = false) : minB (partB l (coreF l l.length l.length)) = true := by
  have hlen := coreF_len (l := l) (n := l.length) (t := l.length)
  have hl := probB_len hp
  unfold minB
  rw [partB_prob hp coreF_in (by omega), coreF_closed ho]
  show needB _ = true
  unfold needB
  rw [List.all_eq_true]
  intro p hpm
  have hpm := List.mem_range.1 hpm
  have hq : (partB l (coreF l l.length l.length)).length = (coreF l l.length l.length).length := by simp [partB]
  exact openB_sub (partB_part_out coreF_nodup (by omega)) (coreF_need (getD_mem (d := 0) (by omega)))

theorem idsB_asc (n : Nat) : (idsB n).Pairwise (· < ·) := by
  unfold idsB
  rw [List.pairwise_map]
  exact List.pairwise_lt_range.imp (fun h => by omega)

theorem coreF_keep {l : List (List (Int × Int) × Int)} : keepB (coreF l l.length l.length) l.length = true := keepB_of coreF_in ((idsB_asc _).sublist (coreF_sub _))

theorem law_FnMinimalCore {a : List Int} (ha : ∀ x ∈ a, 0 ≤ x ∧ x ≤ 255) : laws_FnMinimalCore a = some true := by
  unfold laws_FnMinimalCore
  by_cases h0 : 1048576 < (a.length : Int)
  · rw [cdec_pos h0]
  rw [cdec_neg h0]
  obtain ⟨l, h1, h2, h3⟩ := spec_DrawMinimalCore_ok ha
  have hs : smallC l := ⟨by omega, fun x hx => by have := h3 x hx; omega⟩
  have hlen := coreB_len (l := l)
  rw [h1, bind_s, impl_MinimalCore_eq hs, bind_s, spec_MinimalCore_eq hs, bind_s, bne_self_eq_false, cff, cpInts_self _ (by omega), bind_s, cnt, impl_ProblemValid_eq l hs, bind_s]
  cases hp : probB l with
  | false => rw [cnf, beq_self_eq_true, ctt, bind_s]
  | true =>
    rw [cnt]
    unfold coreB
    cases ho : openB l with
    | true =>
      rw [hp, Bool.not_true, Bool.and_false, cff]
      dsimp only
      rw [cnf, impl_CountSolutions_eq hs hp, bind_s]
      rw [openB_sols, decide_eq_true_iff] at ho
      rw [decide_eq_true (by omega)]
    | false =>
      rw [hp, Bool.not_false, Bool.and_self, ctt]
      dsimp only
      have hlen := coreF_len (l := l) (n := l.length) (t := l.length)
      have hin : ∀ x ∈ coreF l l.length l.length, 0 ≤ x ∧ x < l.length := coreF_in
      have hs2 : smallC (partB l (coreF l l.length l.length)) := partB_sm hs (by omega) hin
      have hp2 : probB (partB l (coreF l l.length l.length)) = true := partB_prob hp hin (by omega)
      have hm := core_min hp ho
      have hc := coreF_closed ho l.length
      rw [openB_sols, decide_eq_false_iff_not] at hc
      rw [cnt, impl_SubProblem_eq l _ hs (by omega), bind_s]
      unfold subProbB
      rw [hp, coreF_keep, Bool.and_self, ctt]
      dsimp only
      rw [ctt, impl_CoreMinimal_eq hs2, bind_s, hm, ctt, impl_CountSolutions_eq hs2 hp2, bind_s]
      have : ((solsB (partB l (coreF l l.length l.length)) : Nat) : Int) = 0 := by omega
      rw [this]
      rfl

end Go.AE.Y
