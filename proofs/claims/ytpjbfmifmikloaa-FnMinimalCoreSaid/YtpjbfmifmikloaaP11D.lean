/-
  Plain laws: minimal cores and maximal parts.
-/
import Derived.Test.YtpjbfmifmikloaaP11C
namespace Go.AE.Y
open Go Go.AE

theorem getD_in {α : Type} {l : List α} {i : Nat} {d : α} (h : i < l.length) : l.getD i d ∈ l := getD_mem h

theorem partB_mem {l : List (List (Int × Int) × Int)} {c : List Int} (h : ∀ x ∈ c, 0 ≤ x ∧ x < l.length) : ∀ y ∈ partB l c, y ∈ l := by
  intro y hy
  obtain ⟨n, hn, rfl⟩ := List.mem_map.1 hy
  have := h n hn
  exact getD_mem (by omega)

theorem partB_mono {l : List (List (Int × Int) × Int)} {c d : List Int} (h : ∀ x ∈ c, x ∈ d) : ∀ y ∈ partB l c, y ∈ partB l d := by
  intro y hy
  obtain ⟨n, hn, rfl⟩ := List.mem_map.1 hy
  exact List.mem_map.2 ⟨n, h n hn, rfl⟩

theorem partB_sm {l : List (List (Int × Int) × Int)} {c : List Int} (h : smallC l) (hc : c.length ≤ 1048576) (hm : ∀ x ∈ c, 0 ≤ x ∧ x < l.length) : smallC (partB l c) :=
  partB_small h hc (fun i hi => hm _ (getD_mem hi))

theorem partB_con {l : List (List (Int × Int) × Int)} {c : List Int} (hp : ∀ x ∈ l, conB x = true) (hm : ∀ x ∈ c, 0 ≤ x ∧ x < l.length) : ∀ y ∈ partB l c, conB y = true :=
  fun y hy => hp y (partB_mem hm y hy)

theorem partB_prob {l : List (List (Int × Int) × Int)} {c : List Int} (hp : probB l = true) (hm : ∀ x ∈ c, 0 ≤ x ∧ x < l.length) (hl : c.length ≤ 400) : probB (partB l c) = true := by
  unfold probB
  simp only [Bool.and_eq_true, List.all_eq_true, decide_eq_true_eq]
  exact ⟨partB_con (probB_all hp) hm, by simpa [partB] using hl⟩

theorem probB_len {l : List (List (Int × Int) × Int)} (hp : probB l = true) : l.length ≤ 400 := by
  unfold probB at hp
  simp only [Bool.and_eq_true, decide_eq_true_eq] at hp
  exact hp.2

theorem outB_sub {c : List Int} {k : Int} : ∀ x ∈ outB c k, x ∈ c ∧ x ≠ k := by
  intro x hx
  unfold outB at hx
  have := List.mem_filter.1 hx
  exact ⟨this.1, by simpa using this.2⟩
theorem outB_len (c : List Int) (k : Int) : (outB c k).length ≤ c.length := List.length_filter_le _ _
theorem outB_mem {c : List Int} {k x : Int} (h : x ∈ c) (hk : x ≠ k) : x ∈ outB c k := List.mem_filter.2 ⟨h, by simpa using hk⟩

/-! ### Cores -/

noncomputable def coreStep (l : List (List (Int × Int) × Int)) (out : List Int) (k : Int) : List Int := bif openB (partB l (outB out k)) then out else outB out k
noncomputable def coreF (l : List (List (Int × Int) × Int)) (n : Nat) : Nat → List Int
  | 0 => idsB n
  | t + 1 => coreStep l (coreF l n t) ((n : Int) - 1 - t)

theorem coreStep_sub {l : List (List (Int × Int) × Int)} {out : List Int} {k : Int} : (coreStep l out k).Sublist out := by
  unfold coreStep
  cases openB (partB l (outB out k)) with
  | true => rw [ctt]; exact List.Sublist.refl _
  | false => rw [cff]; exact List.filter_sublist

theorem coreF_sub {l : List (List (Int × Int) × Int)} {n : Nat} : ∀ t, (coreF l n t).Sublist (idsB n)
  | 0 => List.Sublist.refl _
  | t + 1 => coreStep_sub.trans (coreF_sub t)

theorem idsB_nodup (n : Nat) : (idsB n).Nodup := by
  unfold idsB
  rw [List.Nodup, List.pairwise_map]
  exact List.nodup_range.imp (fun h e => h (by omega))

theorem coreF_in {l : List (List (Int × Int) × Int)} {n t : Nat} : ∀ x ∈ coreF l n t, 0 ≤ x ∧ x < n := fun x hx => idsB_mem.1 ((coreF_sub t).subset hx)
theorem coreF_len {l : List (List (Int × Int) × Int)} {n t : Nat} : (coreF l n t).length ≤ n := by
  have := (coreF_sub (l := l) (n := n) t).length_le
  rwa [idsB_len] at this
theorem coreF_nodup {l : List (List (Int × Int) × Int)} {n t : Nat} : (coreF l n t).Nodup := (idsB_nodup n).sublist (coreF_sub t)

noncomputable def coreB (l : List (List (Int × Int) × Int)) : Bool × List Int := bif probB l && !openB l then (true, coreF l l.length l.length) else (false, [])

theorem openB_part {l : List (List (Int × Int) × Int)} {c : List Int} (h : smallC l) (hp : probB l = true) (hm : ∀ x ∈ c, 0 ≤ x ∧ x < l.length) (hc : c.length ≤ 400) :
    impl_solvable (partB l c) = some (openB (partB l c)) ∧ spec_l11Open (partB l c) = some (openB (partB l c)) :=
  ⟨impl_solvable_eq (partB_sm h (by omega) hm) (partB_con (probB_all hp) hm), spec_l11Open_eq (partB_sm h (by omega) hm) (partB_prob hp hm hc)⟩

theorem impl_MinimalCore_eq {l : List (List (Int × Int) × Int)} (h : smallC l) : impl_MinimalCore l = some (coreB l) := by
  unfold impl_MinimalCore coreB
  rw [impl_ProblemValid_eq l h, bind_s]
  cases hp : probB l with
  | false => rw [cnf, Bool.false_and, cff]
  | true =>
    have hl := probB_len hp
    rw [cnt, Bool.true_and, impl_solvable_eq h (probB_all hp), bind_s]
    cases openB l with
    | true => rw [ctt, Bool.not_true, cff]
    | false =>
      rw [cff, Bool.not_false, ctt, impl_indices_eq (by omega), bind_s, rq_i64 (by omega) (by omega)]
      refine loop_fn (fun s : Int × List Int => ∃ t : Nat, t ≤ l.length ∧ s.1 = (l.length : Int) - 1 - t ∧ s.2 = coreF l l.length t) (fun s => (s.1 + 1).toNat) (fun _ => (true, coreF l l.length l.length)) ?_ _ ⟨0, by omega, by dsimp only; omega, rfl⟩
      rintro ⟨k, out⟩ ⟨t, ht, rfl, rfl⟩
      dsimp only
      unfold impl_MinimalCore_l1
      dsimp only
      rcases Nat.lt_or_ge t l.length with h1 | h1
      · left
        have hin : ∀ x ∈ outB (coreF l l.length t) ((l.length : Int) - 1 - t), 0 ≤ x ∧ x < l.length := fun x hx => coreF_in x (outB_sub x hx).1
        have hc1 := outB_len (coreF l l.length t) ((l.length : Int) - 1 - t)
        have hc2 := coreF_len (l := l) (n := l.length) (t := t)
        rw [cdec_pos (by omega), impl_without_eq (by omega), bind_s, impl_partOf__s_eq l _ h (by omega) (fun i hi => hin _ (getD_mem hi)), bind_s, (openB_part h hp hin (by omega)).1, bind_s]
        have hn : coreF l l.length (t + 1) = coreStep l (coreF l l.length t) ((l.length : Int) - 1 - t) := rfl
        unfold coreStep at hn
        cases hq : openB (partB l (outB (coreF l l.length t) ((l.length : Int) - 1 - t))) with
        | true =>
          rw [hq, ctt] at hn
          rw [cnt, rq_i64 (by omega) (by omega)]
          exact ⟨_, rfl, ⟨t + 1, by omega, by dsimp only; omega, by rw [hn]⟩, by dsimp only; omega, rfl⟩
        | false =>
          rw [hq, cff] at hn
          rw [cnf, rq_i64 (by omega) (by omega)]
          exact ⟨_, rfl, ⟨t + 1, by omega, by dsimp only; omega, by rw [hn]⟩, by dsimp only; omega, rfl⟩
      · right
        have : t = l.length := by omega
        subst this
        rw [cdec_neg (by omega)]

theorem spec_core_in {l : List (List (Int × Int) × Int)} {keep : List Int} {i : Nat} (h : smallC l) (hp : probB l = true) (hn : keep.Nodup) (hm : ∀ x ∈ keep, 0 ≤ x ∧ x < l.length) (hk : keep.length ≤ 400) (hi : i ≤ 1000) :
    loop (spec_MinimalCore_l2 l i) ((0 : Int), keep) = some (.inl ((i : Int) - 1, coreStep l keep i)) := by
  have hin : ∀ x ∈ outB keep i, 0 ≤ x ∧ x < l.length := fun x hx => hm x (outB_sub x hx).1
  have hc1 := outB_len keep i
  refine loop_fn (fun s : Int × List Int => ∃ j : Nat, s.1 = j ∧ j ≤ 500 ∧ ((s.2 = keep ∧ j ≤ keep.length ∧ (openB (partB l (outB keep i)) = false → ∀ q, q < j → keep.getD q 0 ≠ i)) ∨ (s.2 = outB keep i ∧ openB (partB l (outB keep i)) = false ∧ j ≤ keep.length))) (fun s => 1000 - s.1.toNat) (fun _ => Sum.inl ((i : Int) - 1, coreStep l keep i)) ?_ _
    (⟨0, rfl, by omega, .inl ⟨rfl, by omega, fun _ q hq => by omega⟩⟩)
  rintro ⟨s, kp⟩ ⟨j, rfl, hj, hcase⟩
  dsimp only at hcase ⊢
  unfold spec_MinimalCore_l2
  dsimp only
  rcases hcase with ⟨rfl, h1, h2⟩ | ⟨rfl, h1, h2⟩
  · rcases Nat.lt_or_ge j kp.length with h3 | h3
    · left
      rw [cdec_pos (by omega), rq_pos ⟨by omega, by omega⟩, Int.toNat_natCast]
      by_cases he : kp.getD j 0 = (i : Int)
      · have ho : kp.take j ++ kp.drop (j + 1) = outB kp i := by rw [← he, outB_at hn h3]
        rw [cbeq_pos he, spec_l11Without_eq (by omega) h3, bind_s, ho, spec_l11Sub_eq l _ h (by omega) (fun i hi => hin _ (getD_mem hi)), bind_s, (openB_part h hp hin (by omega)).2, bind_s]
        cases hq : openB (partB l (outB kp i)) with
        | true =>
          rw [cnt, rq_i64 (by omega) (by omega)]
          exact ⟨_, rfl, ⟨j + 1, by simp, by omega, .inl ⟨rfl, by omega, fun hf => by cases hf⟩⟩, by dsimp only; omega, rfl⟩
        | false =>
          rw [cnf, bind_s, rq_i64 (by omega) (by omega)]
          exact ⟨_, rfl, ⟨j + 1, by simp, by omega, .inr ⟨rfl, rfl, by omega⟩⟩, by dsimp only; omega, rfl⟩
      · rw [cbeq_neg he, rq_i64 (by omega) (by omega)]
        refine ⟨_, rfl, ⟨j + 1, by simp, by omega, .inl ⟨rfl, by omega, fun hf q hq => ?_⟩⟩, by dsimp only; omega, rfl⟩
        rcases Nat.lt_or_ge q j with h4 | h4
        · exact h2 hf q h4
        · rw [show q = j by omega]; exact he
    · right
      rw [cdec_neg (by omega), rq_i64 (by omega) (by omega)]
      unfold coreStep
      cases hq : openB (partB l (outB kp i)) with
      | true => rw [ctt]
      | false =>
        rw [cff]
        have hall := h2 hq
        have : outB kp i = kp := by
          unfold outB
          rw [List.filter_eq_self]
          intro x hx
          obtain ⟨q, hq', rfl⟩ := List.mem_iff_getElem.1 hx
          have := hall q (by omega)
          rw [List.getD_eq_getElem?_getD, List.getElem?_eq_getElem hq'] at this
          simpa using this
        rw [this]
  · rcases Nat.lt_or_ge j (outB keep i).length with h3 | h3
    · left
      have hne : (outB keep i).getD j 0 ≠ (i : Int) := (outB_sub _ (getD_mem h3)).2
      rw [cdec_pos (by omega), rq_pos ⟨by omega, by omega⟩, Int.toNat_natCast, cbeq_neg hne, rq_i64 (by omega) (by omega)]
      exact ⟨_, rfl, ⟨j + 1, by simp, by omega, .inr ⟨rfl, h1, by omega⟩⟩, by dsimp only; omega, rfl⟩
    · right
      rw [cdec_neg (by omega), rq_i64 (by omega) (by omega)]
      unfold coreStep
      rw [h1, cff]

theorem spec_MinimalCore_eq {l : List (List (Int × Int) × Int)} (h : smallC l) : spec_MinimalCore l = some (coreB l) := by
  unfold spec_MinimalCore coreB
  rw [spec_ProblemValid_eq l h, bind_s]
  cases hp : probB l with
  | false => rw [cnf, Bool.false_and, cff]
  | true =>
    have hl := probB_len hp
    rw [cnt, Bool.true_and, spec_l11Open_eq h hp, bind_s]
    cases openB l with
    | true => rw [ctt, Bool.not_true, cff]
    | false =>
      rw [cff, Bool.not_false, ctt, spec_l11Count_eq (by omega), bind_s, rq_i64 (by omega) (by omega)]
      refine loop_fn (fun s : Int × List Int => ∃ t : Nat, t ≤ l.length ∧ s.1 = (l.length : Int) - 1 - t ∧ s.2 = coreF l l.length t) (fun s => (s.1 + 1).toNat) (fun _ => (true, coreF l l.length l.length)) ?_ _ ⟨0, by omega, by dsimp only; omega, rfl⟩
      rintro ⟨k, out⟩ ⟨t, ht, rfl, rfl⟩
      dsimp only
      unfold spec_MinimalCore_l1
      dsimp only
      rcases Nat.lt_or_ge t l.length with h1 | h1
      · left
        have hc2 := coreF_len (l := l) (n := l.length) (t := t)
        have e : (l.length : Int) - 1 - t = ((l.length - 1 - t : Nat) : Int) := by omega
        have hin := spec_core_in (l := l) (keep := coreF l l.length t) (i := l.length - 1 - t) h hp coreF_nodup coreF_in (by omega) (by omega)
        rw [← e] at hin
        have hn : coreF l l.length (t + 1) = coreStep l (coreF l l.length t) ((l.length : Int) - 1 - t) := rfl
        rw [cdec_pos (by omega), hin, ← hn]
        refine ⟨_, rfl, ⟨t + 1, by omega, by dsimp only; omega, by dsimp only⟩, by dsimp only; omega, ?_⟩
        rfl
      · right
        have : t = l.length := by omega
        subst this
        rw [cdec_neg (by omega)]

/-- Every constraint is needed. -/
noncomputable def needB (l : List (List (Int × Int) × Int)) : Bool := (List.range l.length).all (fun k => openB (partB l (outB (idsB l.length) k)))
noncomputable def minB (l : List (List (Int × Int) × Int)) : Bool := probB l && (!openB l && needB l)

theorem idsB_get {n i : Nat} (h : i < n) : (idsB n).getD i 0 = (i : Int) := by
  unfold idsB
  rw [getD_map (d := 0) (h := by simpa using h)]
  simp [List.getD_eq_getElem?_getD, h]

theorem ids_out {l : List (List (Int × Int) × Int)} {k : Int} (hl : l.length ≤ 400) : (∀ x ∈ outB (idsB l.length) k, 0 ≤ x ∧ x < l.length) ∧ (outB (idsB l.length) k).length ≤ 400 :=
  ⟨fun x hx => idsB_mem.1 (outB_sub x hx).1, by have := outB_len (idsB l.length) k; rw [idsB_len] at this; omega⟩

theorem needB_any {l : List (List (Int × Int) × Int)} : (!(idsB l.length).any fun k => !openB (partB l (outB (idsB l.length) k))) = needB l := by
  rw [List.any_eq_not_all_not, Bool.not_not]
  unfold needB
  generalize hc : idsB l.length = c
  have : ∀ n : Nat, (idsB n).all (fun k => !!openB (partB l (outB c k))) = (List.range n).all (fun k => openB (partB l (outB c (k : Int)))) := fun n => by
    unfold idsB
    simp only [List.all_map, Function.comp_def, Bool.not_not]
  rw [← hc]
  rw [← hc] at this
  exact this l.length

theorem impl_CoreMinimal_eq {l : List (List (Int × Int) × Int)} (h : smallC l) : impl_CoreMinimal l = some (minB l) := by
  unfold impl_CoreMinimal minB
  rw [impl_ProblemValid_eq l h, bind_s]
  cases hp : probB l with
  | false => rw [cnf, Bool.false_and]
  | true =>
    have hl := probB_len hp
    rw [cnt, Bool.true_and, impl_solvable_eq h (probB_all hp), bind_s]
    cases openB l with
    | true => rw [ctt, Bool.not_true, Bool.false_and]
    | false =>
      rw [cff, Bool.not_false, Bool.true_and, impl_indices_eq (by omega), bind_s]
      unfold slices_ContainsFunc_int__impl_CoreMinimal_1__rRs slices_IndexFunc_int__impl_CoreMinimal_1__rRs
      obtain ⟨r, hr1, hr2⟩ := loop_find (f := slices_IndexFunc_int__impl_CoreMinimal_1__rRs_l1 l (idsB l.length)) (idsB l.length) 0 (fun k => !openB (partB l (outB (idsB l.length) k))) (fun i hi => by
        rw [idsB_len] at hi
        obtain ⟨o1, o2⟩ := ids_out (l := l) (k := i) hl
        unfold slices_IndexFunc_int__impl_CoreMinimal_1__rRs_l1 impl_CoreMinimal_1__rRs
        rw [idsB_len, cdec_pos (by omega), rq_pos ⟨by omega, by omega⟩, Int.toNat_natCast, idsB_get hi]
        rw [impl_without_eq (by rw [idsB_len]; omega), bind_s, impl_partOf_eq l _ h (by omega) (fun i hi => o1 _ (getD_mem hi)), bind_s, (openB_part h hp o1 o2).1, bind_s, bind_s]
        cases openB (partB l (outB (idsB l.length) i)) with
        | true => rw [cnt, rq_i64 (by omega) (by omega), cnt]
        | false => rw [cnf, cnf]) (by
        unfold slices_IndexFunc_int__impl_CoreMinimal_1__rRs_l1
        rw [cdec_neg (by omega)])
      rw [hr1, bind_s, bind_s, hr2]
      congr 1
      exact needB_any

/-! ### Maximal parts -/

noncomputable def maxF (l : List (List (Int × Int) × Int)) : Nat → List Int
  | 0 => []
  | t + 1 => bif openB (partB l (maxF l t ++ [(t : Int)])) then maxF l t ++ [(t : Int)] else maxF l t
noncomputable def maxB (l : List (List (Int × Int) × Int)) : Bool × List Int := bif probB l then (true, maxF l l.length) else (false, [])

theorem maxF_in {l : List (List (Int × Int) × Int)} : ∀ t, (∀ x ∈ maxF l t, 0 ≤ x ∧ x < t) ∧ (maxF l t).length ≤ t
  | 0 => And.intro (fun x hx => by cases hx) (Nat.le_refl _)
  | t + 1 => by
    obtain ⟨h1, h2⟩ := maxF_in (l := l) t
    unfold maxF
    cases openB (partB l (maxF l t ++ [(t : Int)])) with
    | true =>
      rw [ctt]
      refine ⟨fun x hx => ?_, by simp; omega⟩
      rcases List.mem_append.1 hx with hx | hx
      · have := h1 x hx; omega
      · rw [List.mem_singleton.1 hx]; omega
    | false =>
      rw [cff]
      exact ⟨fun x hx => by have := h1 x hx; omega, by omega⟩

theorem max_more {l : List (List (Int × Int) × Int)} {t : Nat} (ht : t < l.length) (hl : l.length ≤ 400) : (∀ x ∈ maxF l t ++ [(t : Int)], 0 ≤ x ∧ x < l.length) ∧ (maxF l t ++ [(t : Int)]).length ≤ 400 := by
  obtain ⟨h1, h2⟩ := maxF_in (l := l) t
  refine ⟨fun x hx => ?_, by simp; omega⟩
  rcases List.mem_append.1 hx with hx | hx
  · have := h1 x hx; omega
  · rw [List.mem_singleton.1 hx]; omega

/-! ### The exact laws -/

theorem coreB_len {l : List (List (Int × Int) × Int)} : (coreB l).2.length ≤ 400 := by
  unfold coreB
  cases hq : probB l && !openB l with
  | false => rw [cff]; simp
  | true =>
    rw [ctt]
    simp only [Bool.and_eq_true] at hq
    have := coreF_len (l := l) (n := l.length) (t := l.length)
    have := probB_len hq.1
    dsimp only
    omega

theorem maxB_len {l : List (List (Int × Int) × Int)} : (maxB l).2.length ≤ 400 := by
  unfold maxB
  cases hq : probB l with
  | false => rw [cff]; simp
  | true =>
    rw [ctt]
    have := (maxF_in (l := l) l.length).2
    have := probB_len hq
    dsimp only
    omega

end Go.AE.Y
