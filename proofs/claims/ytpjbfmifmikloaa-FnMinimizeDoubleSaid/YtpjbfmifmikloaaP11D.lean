/-
  Plain laws: minimal cores and maximal parts.
-/
import Derived.Test.YtpjbfmifmikloaaP11C
namespace Go.AE.Y
open Go Go.AE

theorem getD_in {α : Type} {l : List α} {i : Nat} {d : α} (h : i < l.length) : l.getD i d ∈ l := getD_mem h

theorem partB_mem {l : List (List (Int × Int) × Int)} {c : List Int} (h : ∀ x ∈ c, 0 ≤ x ∧ x < l.length) : ∀ y ∈ partB l c, y ∈ l := by
  intro y hy
  obtain ⟨n, hn, rfl⟩ := List.mem_map.1 hy
  have := h n hn
  exact getD_mem (by omega)

theorem partB_mono {l : List (List (Int × Int) × Int)} {c d : List Int} (h : ∀ x ∈ c, x ∈ d) : ∀ y ∈ partB l c, y ∈ partB l d := by
  intro y hy
  obtain ⟨n, hn, rfl⟩ := List.mem_map.1 hy
  exact List.mem_map.2 ⟨n, h n hn, rfl⟩

theorem partB_sm {l : List (List (Int × Int) × Int)} {c : List Int} (h : smallC l) (hc : c.length ≤ 1048576) (hm : ∀ x ∈ c, 0 ≤ x ∧ x < l.length) : smallC (partB l c) :=
  partB_small h hc (fun i hi => hm _ (getD_mem hi))

theorem partB_con {l : List (List (Int × Int) × Int)} {c : List Int} (hp : ∀ x ∈ l, conB x = true) (hm : ∀ x ∈ c, 0 ≤ x ∧ x < l.length) : ∀ y ∈ partB l c, conB y = true :=
  fun y hy => hp y (partB_mem hm y hy)

theorem partB_prob {l : List (List (Int × Int) × Int)} {c : List Int} (hp : probB l = true) (hm : ∀ x ∈ c, 0 ≤ x ∧ x < l.length) (hl : c.length ≤ 400) : probB (partB l c) = true := by
  unfold probB
  simp only [Bool.and_eq_true, List.all_eq_true, decide_eq_true_eq]
  exact ⟨partB_con (probB_all hp) hm, by simpa [partB] using hl⟩

theorem probB_len {l : List (List (Int × Int) × Int)} (hp : probB l = true) : l.length ≤ 400 := by
  unfold probB at hp
  simp only [Bool.and_eq_true, decide_eq_true_eq] at hp
  exact hp.2

theorem outB_sub {c : List Int} {k : Int} : ∀ x ∈ outB c k, x ∈ c ∧ x ≠ k := by
  intro x hx
  unfold outB at hx
  have := List.mem_filter.1 hx
  exact ⟨this.1, by simpa using this.2⟩
theorem outB_len (c : List Int) (k : Int) : (outB c k).length ≤ c.length := List.length_filter_le _ _
theorem outB_mem {c : List Int} {k x : Int} (h : x ∈ c) (hk : x ≠ k) : x ∈ outB c k := List.mem_filter.2 ⟨h, by simpa using hk⟩

/-! ### Cores -/

noncomputable def coreStep (l : List (List (Int × Int) × Int)) (out : List Int) (k : Int) : List Int := bif openB (partB l (outB out k)) then out else outB out k
noncomputable def coreF (l : List (List (Int × Int) × Int)) (n : Nat) : Nat → List Int
  | 0 => idsB n
  | t + 1 => coreStep l (coreF l n t) ((n : Int) - 1 - t)

theorem coreStep_sub {l : List (List (Int × Int) × Int)} {out : List Int} {k : Int} : (coreStep l out k).Sublist out := by
  unfold coreStep
  cases openB (partB l (outB out k)) with
  | true => rw [ctt]; exact List.Sublist.refl _
  | false => rw [cff]; exact List.filter_sublist

theorem coreF_sub {l : List (List (Int × Int) × Int)} {n : Nat} : ∀ t, (coreF l n t).Sublist (idsB n)
  | 0 => List.Sublist.refl _
  | t + 1 => coreStep_sub.trans (coreF_sub t)

theorem idsB_nodup (n : Nat) : (idsB n).Nodup := by
  unfold idsB
  rw [List.Nodup, List.pairwise_map]
  exact List.nodup_range.imp (fun h e => h (by omega))

theorem coreF_in {l : List (List (Int × Int) × Int)} {n t : Nat} : ∀ x ∈ coreF l n t, 0 ≤ x ∧ x < n := fun x hx => idsB_mem.1 ((coreF_sub t).subset hx)
theorem coreF_len {l : List (List (Int × Int) × Int)} {n t : Nat} : (coreF l n t).length ≤ n := by
  have := (coreF_sub (l := l) (n := n) t).length_le
  rwa [idsB_len] at this
theorem coreF_nodup {l : List (List (Int × Int) × Int)} {n t : Nat} : (coreF l n t).Nodup := (idsB_nodup n).sublist (coreF_sub t)

noncomputable def coreB (l : List (List (Int × Int) × Int)) : Bool × List Int := bif probB l && !openB l then (true, coreF l l.length l.length) else (false, [])

/-- Every constraint is needed. -/
noncomputable def needB (l : List (List (Int × Int) × Int)) : Bool := (List.range l.length).all (fun k => openB (partB l (outB (idsB l.length) k)))
noncomputable def minB (l : List (List (Int × Int) × Int)) : Bool := probB l && (!openB l && needB l)

theorem idsB_get {n i : Nat} (h : i < n) : (idsB n).getD i 0 = (i : Int) := by
  unfold idsB
  rw [getD_map (d := 0) (h := by simpa using h)]
  simp [List.getD_eq_getElem?_getD, h]

theorem ids_out {l : List (List (Int × Int) × Int)} {k : Int} (hl : l.length ≤ 400) : (∀ x ∈ outB (idsB l.length) k, 0 ≤ x ∧ x < l.length) ∧ (outB (idsB l.length) k).length ≤ 400 :=
  ⟨fun x hx => idsB_mem.1 (outB_sub x hx).1, by have := outB_len (idsB l.length) k; rw [idsB_len] at this; omega⟩

theorem needB_any {l : List (List (Int × Int) × Int)} : (!(idsB l.length).any fun k => !openB (partB l (outB (idsB l.length) k))) = needB l := by
  rw [List.any_eq_not_all_not, Bool.not_not]
  unfold needB
  generalize hc : idsB l.length = c
  have : ∀ n : Nat, (idsB n).all (fun k => !!openB (partB l (outB c k))) = (List.range n).all (fun k => openB (partB l (outB c (k : Int)))) := fun n => by
    unfold idsB
    simp only [List.all_map, Function.comp_def, Bool.not_not]
  rw [← hc]
  rw [← hc] at this
  exact this l.length

/-! ### Maximal parts -/

noncomputable def maxF (l : List (List (Int × Int) × Int)) : Nat → List Int
  | 0 => []
  | t + 1 => bif openB (partB l (maxF l t ++ [(t : Int)])) then maxF l t ++ [(t : Int)] else maxF l t
noncomputable def maxB (l : List (List (Int × Int) × Int)) : Bool × List Int := bif probB l then (true, maxF l l.length) else (false, [])

theorem maxF_in {l : List (List (Int × Int) × Int)} : ∀ t, (∀ x ∈ maxF l t, 0 ≤ x ∧ x < t) ∧ (maxF l t).length ≤ t
  | 0 => And.intro (fun x hx => by cases hx) (Nat.le_refl _)
  | t + 1 => by
    obtain ⟨h1, h2⟩ := maxF_in (l := l) t
    unfold maxF
    cases openB (partB l (maxF l t ++ [(t : Int)])) with
    | true =>
      rw [ctt]
      refine ⟨fun x hx => ?_, by simp; omega⟩
      rcases List.mem_append.1 hx with hx | hx
      · have := h1 x hx; omega
      · rw [List.mem_singleton.1 hx]; omega
    | false =>
      rw [cff]
      exact ⟨fun x hx => by have := h1 x hx; omega, by omega⟩

theorem max_more {l : List (List (Int × Int) × Int)} {t : Nat} (ht : t < l.length) (hl : l.length ≤ 400) : (∀ x ∈ maxF l t ++ [(t : Int)], 0 ≤ x ∧ x < l.length) ∧ (maxF l t ++ [(t : Int)]).length ≤ 400 := by
  obtain ⟨h1, h2⟩ := maxF_in (l := l) t
  refine ⟨fun x hx => ?_, by simp; omega⟩
  rcases List.mem_append.1 hx with hx | hx
  · have := h1 x hx; omega
  · rw [List.mem_singleton.1 hx]; omega

/-! ### The exact laws -/

theorem coreB_len {l : List (List (Int × Int) × Int)} : (coreB l).2.length ≤ 400 := by
  unfold coreB
  cases hq : probB l && !openB l with
  | false => rw [cff]; simp
  | true =>
    rw [ctt]
    simp only [Bool.and_eq_true] at hq
    have := coreF_len (l := l) (n := l.length) (t := l.length)
    have := probB_len hq.1
    dsimp only
    omega

theorem maxB_len {l : List (List (Int × Int) × Int)} : (maxB l).2.length ≤ 400 := by
  unfold maxB
  cases hq : probB l with
  | false => rw [cff]; simp
  | true =>
    rw [ctt]
    have := (maxF_in (l := l) l.length).2
    have := probB_len hq
    dsimp only
    omega

end Go.AE.Y
