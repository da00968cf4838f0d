/-
  Plain laws: cubes are a partition.
-/
import Derived.Test.YtkipgkpekkjebaaP12S
import Derived.Test.YtkipgkpekkjebaaP12D
namespace Go.AE.Y
open Go Go.AE

theorem spec_DrawSplitCubes_ok {a : List Int} (h : ∀ x ∈ a, 0 ≤ x ∧ x ≤ 255) : ∃ c, spec_DrawSplitCubes a = some c ∧ c.length ≤ 6 := by
  unfold spec_DrawSplitCubes
  obtain ⟨r, h1, h2⟩ := open_ok h
  have hr0 : r.2 = 0 := by have := h2.low; have := h2.high; omega
  obtain ⟨k, l, h3, h4, h5, h6⟩ := spec_l12Draw_ok (r := r) ⟨h2.byte, h2.len, h2.low, by omega⟩
  rw [h1, bind_s, h3, bind_s]
  exact ⟨l, rfl, h6.1⟩

theorem cpInts_self (a : List Int) (h : a.length ≤ 4000000000) : laws_cpInts a a = some true := by
  unfold laws_cpInts
  rw [cbne_neg rfl, loop_all a.length (fun _ => true) false true]
  · rw [List.all_eq_true.2 (fun _ _ => rfl)]; rfl
  · intro i hi _
    unfold laws_cpInts_l1
    simp (disch := omega) only [cdec_pos, rq_pos, rq_i64, Int.toNat_natCast, bne_self_eq_false, cff, ctt]
  · unfold laws_cpInts_l1
    simp (disch := omega) only [cdec_neg]

theorem cpLists_self (a : List (List Int)) (h : okRows a) : laws_cpLists a a = some true := by
  have h1 := h.1
  unfold laws_cpLists
  rw [cbne_neg rfl, loop_all a.length (fun _ => true) false true]
  · rw [List.all_eq_true.2 (fun _ _ => rfl)]; rfl
  · intro i hi _
    have h2 := h.2 _ (getD_mem (d := []) hi)
    unfold laws_cpLists_l1
    simp (disch := omega) only [cdec_pos, rq_pos, rq_i64, Int.toNat_natCast, cpInts_self, bind_s, cnt, ctt]
  · unfold laws_cpLists_l1
    simp (disch := omega) only [cdec_neg]

/-! ### Of the cubes, one holds -/

/-- What each cube is like. -/
def likeB (l c : List Int) : Prop := c.length = l.length ∧ ∀ i, i < l.length → vof (c.getD i 0) = l.getD i 0 ∧ isLit (c.getD i 0) = true

theorem getD_snoc {α : Type} (l : List α) (x d : α) (i : Nat) : (l ++ [x]).getD i d = if i < l.length then l.getD i d else if i = l.length then x else d := by
  simp only [List.getD_eq_getElem?_getD, List.getElem?_append]
  by_cases h : i < l.length
  · rw [if_pos h, if_pos h]
  · rw [if_neg h, if_neg h]
    by_cases h2 : i = l.length
    · subst h2; simp
    · rw [if_neg h2, List.getElem?_eq_none (by simp; omega)]; rfl

theorem cubesB_like : ∀ (n : Nat) (l : List Int), l.length = n → (∀ i, i < l.length → 1 ≤ l.getD i 0 ∧ l.getD i 0 ≤ 12) → ∀ c ∈ cubesB l, likeB l c := by
  intro n
  induction n with
  | zero =>
    intro l hl _ c hc
    obtain rfl := List.eq_nil_of_length_eq_zero hl
    simp [cubesB] at hc
    subst hc
    exact ⟨rfl, fun i hi => by simp at hi⟩
  | succ n ih =>
    intro l hl hx c hc
    obtain ⟨l', v, rfl⟩ : ∃ l' v, l = l' ++ [v] := ⟨l.dropLast, l.getLast (by intro h; rw [h] at hl; simp at hl), (List.dropLast_concat_getLast _).symm⟩
    have hl' : l'.length = n := by simp at hl; exact hl
    have hv : 1 ≤ v ∧ v ≤ 12 := by
      have := hx l'.length (by simp)
      rwa [getD_snoc, if_neg (by omega), if_pos rfl] at this
    have ih' := ih l' hl' (fun i hi => by
      have := hx i (by simp; omega)
      rwa [getD_snoc, if_pos hi] at this)
    rw [cubesB_snoc] at hc
    obtain ⟨c0, h0, h1⟩ := List.mem_flatMap.1 hc
    obtain ⟨q1, q2⟩ := ih' c0 h0
    have main : ∀ x, vof x = v → isLit x = true → likeB (l' ++ [v]) (c0 ++ [x]) := fun x e1 e2 => by
      refine ⟨by simp [q1], fun i hi => ?_⟩
      rw [getD_snoc, getD_snoc, q1]
      by_cases h : i < l'.length
      · rw [if_pos h, if_pos h]; exact q2 i h
      · have : i = l'.length := by simp at hi; omega
        rw [if_neg h, if_pos this, if_neg h, if_pos this]
        exact ⟨e1, e2⟩
    simp only [List.mem_cons, List.not_mem_nil, or_false] at h1
    rcases h1 with rfl | rfl
    · exact main v (by unfold vof; omega) (isLit_iff.2 (by omega))
    · exact main (0 - v) (by unfold vof; omega) (isLit_iff.2 (by omega))

theorem cubeB_of_like {l c : List Int} (hv : varsB l = true) (h : likeB l c) : cubeB c = true := by
  obtain ⟨h1, h2⟩ := h
  have hv' := hv
  unfold varsB at hv'
  simp only [Bool.and_eq_true, decide_eq_true_eq, List.all_eq_true] at hv'
  unfold cubeB
  rw [decide_eq_true (by omega), Bool.and_true, List.all_eq_true]
  intro i hi
  have hi := List.mem_range.1 hi
  obtain ⟨q1, q2⟩ := h2 i (by omega)
  have h3 := hv'.1 i (List.mem_range.2 (by omega))
  unfold varAt at h3
  unfold cubeAt
  rw [q2, Bool.true_and]
  by_cases h0 : i = 0
  · rw [show (i == 0) = true by simpa using h0, Bool.true_or]
  · rw [show (i == 0) = false by simpa using h0, Bool.false_or] at h3 ⊢
    simp only [Bool.and_eq_true, decide_eq_true_eq] at h3
    rw [q1, (h2 (i - 1) (by omega)).1]
    exact decide_eq_true h3.2

theorem litB_pos {v : List Bool} {x : Int} (h : 1 ≤ x) : litB v (0 - x) = !(litB v x) := by
  unfold litB
  rw [show vof (0 - x) = vof x by unfold vof; omega, decide_eq_true (show 0 < x by omega), decide_eq_false (show ¬ 0 < 0 - x by omega)]
  cases v.getD (vof x - 1).toNat false <;> rfl

theorem count_step {v : List Bool} {x : Int} (h : 1 ≤ x) (out : List (List Int)) : (stepB x out).countP (fun c => c.all (litB v)) = out.countP (fun c => c.all (litB v)) := by
  unfold stepB
  induction out with
  | nil => rfl
  | cons c r ih =>
    rw [List.flatMap_cons, List.countP_append, ih, show (c :: r).countP (fun c => c.all (litB v)) = r.countP (fun c => c.all (litB v)) + if c.all (litB v) = true then 1 else 0 from List.countP_cons]
    have e : List.countP (fun c => c.all (litB v)) [c ++ [x], c ++ [0 - x]] = if c.all (litB v) = true then 1 else 0 := by
      simp only [List.countP_cons, List.countP_nil, List.all_append, List.all_cons, List.all_nil, Bool.and_true, litB_pos h]
      cases c.all (litB v) <;> cases litB v x <;> rfl
    rw [e]
    omega

theorem count_one {v : List Bool} : ∀ (n : Nat) (l : List Int), l.length = n → (∀ i, i < l.length → 1 ≤ l.getD i 0) → (cubesB l).countP (fun c => c.all (litB v)) = 1 := by
  intro n
  induction n with
  | zero =>
    intro l hl _
    obtain rfl := List.eq_nil_of_length_eq_zero hl
    rfl
  | succ n ih =>
    intro l hl hx
    obtain ⟨l', x, rfl⟩ : ∃ l' v, l = l' ++ [v] := ⟨l.dropLast, l.getLast (by intro h; rw [h] at hl; simp at hl), (List.dropLast_concat_getLast _).symm⟩
    have hl' : l'.length = n := by simp at hl; exact hl
    have hv : 1 ≤ x := by
      have := hx l'.length (by simp)
      rwa [getD_snoc, if_neg (by omega), if_pos rfl] at this
    rw [cubesB_snoc, count_step hv]
    exact ih l' hl' (fun i hi => by
      have := hx i (by simp; omega)
      rwa [getD_snoc, if_pos hi] at this)

theorem law_FnSplitCubes {a b : List Int} (ha : ∀ x ∈ a, 0 ≤ x ∧ x ≤ 255) (hb : ∀ x ∈ b, 0 ≤ x ∧ x ≤ 255) : laws_FnSplitCubes a b = some true := by
  unfold laws_FnSplitCubes
  by_cases h0 : 1048576 < (a.length : Int)
  · rw [cdec_pos h0]
  rw [cdec_neg h0]
  by_cases h0 : 1048576 < (b.length : Int)
  · rw [cdec_pos h0]
  rw [cdec_neg h0]
  obtain ⟨l, h1, h2⟩ := spec_DrawSplitCubes_ok ha
  obtain ⟨c, v, h3, h4, h5⟩ := spec_DrawCubeHolds_ok hb
  have hok := splitB_ok l
  rw [h1, bind_s, h3, bind_s, impl_SplitCubes_eq _ (by omega), bind_s, spec_SplitCubes_eq _ (by omega), bind_s]
  simp only [bne_self_eq_false, beq_self_eq_true, cff, ctt, cpLists_self _ hok, bind_s, cnt]
  unfold splitB
  cases hv : varsB l with
  | false => rw [cff]; simp only [cnf]
  | true =>
    rw [ctt]
    simp only [cnt]
    by_cases hl : v.length = 12
    · rw [cbne_neg (by omega)]
      obtain ⟨v1, v2⟩ := varsB_spec hv
      obtain ⟨n1, n2⟩ := cubesB_length _ l rfl
      have hcok : okRows (cubesB l) := cubesB_ok v1
      have hlike := cubesB_like _ l rfl v2
      refine loop_fn (fun s : Int × Int × List (List Int) => ∃ i : Nat, s.2.1 = i ∧ i ≤ (cubesB l).length ∧ s.2.2 = cubesB l ∧ s.1 = (((cubesB l).take i).countP (fun c => c.all (litB v)) : Nat)) (fun s => (cubesB l).length - s.2.1.toNat) (fun _ => true) ?_ _ ⟨0, rfl, Nat.zero_le _, rfl, rfl⟩
      rintro ⟨k, s, out⟩ ⟨i, rfl, hi, ho, hk⟩
      dsimp only at ho hk ⊢
      subst ho
      subst hk
      unfold laws_FnSplitCubes_l1
      have hc16 := hcok.1
      rcases Nat.lt_or_ge i (cubesB l).length with g1 | g1
      · left
        have hm := getD_mem (d := ([] : List Int)) g1
        have hcl := hcok.2 _ hm
        have hle : ((cubesB l).take i).countP (fun c => c.all (litB v)) ≤ i := by
          refine Nat.le_trans List.countP_le_length ?_
          rw [List.length_take]; omega
        have hh : cubeHoldsB ((cubesB l).getD i []) v = ((cubesB l).getD i []).all (litB v) := by
          unfold cubeHoldsB
          rw [cubeB_of_like hv (hlike _ hm), decide_eq_true hl]; simp
        simp (disch := omega) only [cdec_pos, rq_pos, Int.toNat_natCast]
        rw [impl_CubeHolds_eq _ _ (by omega), bind_s, hh]
        simp (disch := omega) only [rq_i64, set_getD]
        cases hq : ((cubesB l).getD i []).all (litB v) with
        | true =>
          rw [ctt]
          refine ⟨_, rfl, ⟨i + 1, by simp, by omega, rfl, ?_⟩, by dsimp only; omega, by first | rfl | trivial⟩
          dsimp only
          rw [take_snoc [] g1, List.countP_append]
          rw [show List.countP (fun c => c.all (litB v)) [(cubesB l).getD i []] = 1 from by rw [List.countP_cons, hq]; rfl]
          omega
        | false =>
          rw [cff]
          refine ⟨_, rfl, ⟨i + 1, by simp, by omega, rfl, ?_⟩, by dsimp only; omega, by first | rfl | trivial⟩
          dsimp only
          rw [take_snoc [] g1, List.countP_append]
          rw [show List.countP (fun c => c.all (litB v)) [(cubesB l).getD i []] = 0 from by rw [List.countP_cons, hq]; rfl]
          omega
      · right
        have : i = (cubesB l).length := by omega
        subst this
        rw [List.take_length, count_one _ l rfl (fun i hi => (v2 i hi).1)]
        simp (disch := omega) only [cdec_neg]
        unfold laws_FnSplitCubes_j1
        dsimp only
        rw [cbeq_pos (by omega)]
        have hp : (2 : Int) ^ l.length = ((2 ^ l.length : Nat) : Int) := by simp
        have hb1 : 2 ^ l.length ≤ 16 := Nat.le_trans (Nat.pow_le_pow_right (by omega) v1) (by omega)
        rw [Int.toNat_natCast, hp]
        rw [rq_pos ⟨by omega, i64_of (by omega) (by omega)⟩]
        rw [n1]
        simp [up]
    · rw [cbne_pos (by omega)]
end Go.AE.Y
