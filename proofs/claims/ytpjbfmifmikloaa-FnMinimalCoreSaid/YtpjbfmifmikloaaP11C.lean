/-
  Plain laws: assignments by number; problems that can be solved; minimal cores and maximal parts.
-/
import Derived.Test.YtpjbfmifmikloaaP12K
import Derived.Test.YtpjbfmifmikloaaP11S
namespace Go.AE.Y
open Go Go.AE

/-! ### Assignments by number, both ways -/

theorem rep_get (n i : Nat) : (List.replicate n false).getD i false = false := by
  rw [List.getD_eq_getElem?_getD, List.getElem?_replicate]
  split <;> rfl

def bitsB (k : Nat) : List Bool := (List.range 12).map (fun j => k / 2 ^ (11 - j) % 2 == 1)
theorem bitsB_len (k : Nat) : (bitsB k).length = 12 := by simp [bitsB]
theorem bitsB_get {k j : Nat} (h : j < 12) : (bitsB k).getD j false = (k / 2 ^ (11 - j) % 2 == 1) := by
  unfold bitsB
  rw [getD_map (d := 0) (h := by simpa using h)]
  simp [List.getD_eq_getElem?_getD, h]

theorem impl_numbered_bits {k : Nat} (h : k ≤ 100000) : impl_numbered k = some (bitsB k) := by
  unfold impl_numbered
  rw [rq_pos (by simp [bound])]
  have hr : (List.range 12).length = 12 := by simp
  have := loop_copy (f := impl_numbered_l1 k) (List.range 12) 0 false (fun j => k / 2 ^ (11 - j) % 2 == 1) (fun i out hi ho => ?_) (fun out => ?_)
  · rw [hr] at this; exact this
  · rw [hr] at hi ho
    unfold impl_numbered_l1
    have e12 : ((List.replicate (12 : Int).toNat false).length : Int) = 12 := by simp
    have et : ((11 : Int) - (i : Int)).toNat = 11 - i := by omega
    have ed : ((k : Int) / 2 ^ (11 - i)) = ((k / 2 ^ (11 - i) : Nat) : Int) := by simp
    have eg : (List.range 12).getD i 0 = i := by simp [List.getD_eq_getElem?_getD, hi]
    dsimp only
    rw [e12, et, ed, eg, cdec_pos (by omega), rq_i64 (by omega) (by omega), rq_pos ⟨⟨by omega, by omega⟩, by omega⟩, rq_pos ⟨Int.natCast_nonneg _, by omega⟩, rq_pos ⟨by omega, by omega⟩, rq_i64 (by omega) (by omega)]
    rw [Int.toNat_natCast, Int.toNat_natCast, show (1 : Int).toNat = 1 from rfl, Nat.and_one_is_mod]
    congr 4
    rw [Bool.eq_iff_iff, beq_iff_eq, beq_iff_eq]
    omega
  · rw [hr]
    unfold impl_numbered_l1
    have e12 : ((List.replicate (12 : Int).toNat false).length : Int) = 12 := by simp
    dsimp only
    rw [e12, cdec_neg (by omega)]

theorem numB_bits {k : Nat} (h : k ≤ 100000) : numB k = bitsB k := by
  unfold numB
  rw [impl_numbered_bits h]
  rfl

theorem spec_l5Values_eq {k : Nat} (h : k ≤ 100000) : spec_l5Values k = some (bitsB k) := by
  unfold spec_l5Values
  rw [rq_pos (by simp [bound])]
  refine loop_fn (fun s : Int × Int × List Bool => ∃ t : Nat, s.2.1 = 11 - (t : Int) ∧ t ≤ 12 ∧ s.1 = ((k / 2 ^ t : Nat) : Int) ∧ s.2.2.length = 12 ∧ ∀ j, j < 12 → s.2.2.getD j false = (decide (12 ≤ j + t) && (bitsB k).getD j false)) (fun s => (s.2.1 + 1).toNat) (fun _ => bitsB k) ?_ _
    ⟨0, by simp, by omega, by simp, by simp, fun j hj => ?_⟩
  · rintro ⟨n, s, out⟩ ⟨t, h1, h2, h3, h4, h5⟩
    dsimp only at h1 h3 h4 h5 ⊢
    subst h1
    subst h3
    unfold spec_l5Values_l1
    dsimp only
    rcases Nat.lt_or_ge t 12 with h6 | h6
    · left
      rw [cdec_pos (by omega), rq_pos ⟨by omega, Int.natCast_nonneg _⟩, rq_pos ⟨by omega, by omega⟩, rq_pos ⟨by omega, Int.natCast_nonneg _⟩, rq_i64 (by omega) (by omega)]
      refine ⟨_, rfl, ⟨t + 1, by dsimp only; omega, by omega, ?_, by simp [h4], fun j hj => ?_⟩, by dsimp only; omega, rfl⟩
      · dsimp only
        rw [Nat.pow_succ, ← Nat.div_div_eq_div_mul]
        omega
      · dsimp only
        have et : ((11 : Int) - (t : Int)).toNat = 11 - t := by omega
        rw [et]
        by_cases hj1 : 11 - t = j
        · subst hj1
          rw [getD_set_eq' (by omega), decide_eq_true (by omega), Bool.true_and, bitsB_get hj, show 11 - (11 - t) = t by omega]
          rw [Bool.eq_iff_iff, beq_iff_eq, beq_iff_eq]
          omega
        · rw [getD_set_ne' hj1, h5 j hj]
          congr 1
          exact decide_eq_decide.2 (by omega)
    · right
      have : t = 12 := by omega
      subst this
      rw [cdec_neg (by omega)]
      congr 2
      apply List.ext_getElem?
      intro j
      rcases Nat.lt_or_ge j 12 with hj | hj
      · have := h5 j hj
        rw [decide_eq_true (by omega), Bool.true_and, List.getD_eq_getElem?_getD, List.getD_eq_getElem?_getD, List.getElem?_eq_getElem (by omega), List.getElem?_eq_getElem (by rw [bitsB_len]; omega)] at this
        rw [List.getElem?_eq_getElem (by omega), List.getElem?_eq_getElem (by rw [bitsB_len]; omega)]
        exact congrArg some this
      · rw [List.getElem?_eq_none (by omega), List.getElem?_eq_none (by rw [bitsB_len]; omega)]
  · dsimp only
    rw [decide_eq_false (by omega), Bool.false_and]
    exact rep_get _ _

/-! ### Problems that can be solved -/

noncomputable def openB (l : List (List (Int × Int) × Int)) : Bool := (List.range 4096).any (fun i => l.all (evalB (bitsB i)))

theorem impl_solvable_eq {l : List (List (Int × Int) × Int)} (h : smallC l) (hp : ∀ x ∈ l, conB x = true) : impl_solvable l = some (openB l) := by
  unfold impl_solvable openB
  rw [loop_all 4096 (fun i => !l.all (evalB (bitsB i))) true false, List.any_eq_not_all_not]
  · cases (List.range 4096).all (fun i => !l.all (evalB (bitsB i))) <;> rfl
  · intro i hi _
    unfold impl_solvable_l1
    rw [cdec_pos (by omega), impl_numbered_bits (by omega), bind_s, impl_satisfies_eq h hp (bitsB_len i), bind_s]
    cases l.all (evalB (bitsB i)) with
    | true => rw [ctt, Bool.not_true, cff]
    | false => rw [cff, rq_i64 (by omega) (by omega), Bool.not_false, ctt]
  · unfold impl_solvable_l1
    rw [cdec_neg (by omega)]

theorem spec_l3All_eq {l : List (List (Int × Int) × Int)} {v : List Bool} (h : smallC l) (hp : ∀ x ∈ l, conB x = true) (hv : v.length = 12) : spec_l3All l v = some (l.all (evalB v)) := by
  have h1 := h.1
  unfold spec_l3All
  rw [loop_all l.length (fun i => evalB v (l.getD i ([], 0))) false true, all_range l (evalB v) ([], 0)]
  · cases l.all (evalB v) <;> rfl
  · intro i hi _
    unfold spec_l3All_l1
    simp (disch := omega) only [cdec_pos, rq_pos, Int.toNat_natCast]
    rw [spec_l1Eval_eq (h.2 _ (getD_mem hi)) (hp _ (getD_mem hi)) hv, bind_s]
    cases evalB v (l.getD i ([], 0)) with
    | true => rw [cnt, rq_i64 (by omega) (by omega), ctt]
    | false => rw [cnf, cff]
  · unfold spec_l3All_l1
    simp (disch := omega) only [cdec_neg]

theorem spec_l5Number_zero : spec_l5Number (List.replicate (12 : Int).toNat false) = some 0 := by
  unfold spec_l5Number
  refine loop_fn (fun s : Int × Int => ∃ i : Nat, s.2 = i ∧ i ≤ 12 ∧ s.1 = 0) (fun s => 12 - s.2.toNat) (fun _ => (0 : Int)) ?_ _ ⟨0, rfl, by omega, rfl⟩
  rintro ⟨n, s⟩ ⟨i, rfl, hi, hn⟩
  dsimp only at hn ⊢
  subst hn
  unfold spec_l5Number_l1
  have e12 : (List.replicate (12 : Int).toNat false).length = 12 := by simp
  dsimp only
  rw [e12]
  rcases Nat.lt_or_ge i 12 with h1 | h1
  · left
    rw [cdec_pos (by omega), rq_i64 (by omega) (by omega), rq_pos ⟨by omega, by omega⟩, Int.toNat_natCast, show (List.replicate (12 : Int).toNat false).getD i false = false from rep_get _ _, cff, rq_i64 (by omega) (by omega)]
    exact ⟨_, rfl, ⟨i + 1, by simp, by omega, by simp⟩, by dsimp only; omega, rfl⟩
  · right
    rw [cdec_neg (by omega)]

theorem spec_l11Open_eq {l : List (List (Int × Int) × Int)} (h : smallC l) (hp : probB l = true) : spec_l11Open l = some (openB l) := by
  unfold spec_l11Open spec_NextSolution
  rw [rq_pos (by simp [bound]), spec_ProblemValid_eq l h, bind_s, hp, cnt, cbne_neg (by simp), spec_l5Number_zero, bind_s]
  have key := loop_ex (f := spec_NextSolution_l1 l) (fun s : Int => ∃ i : Nat, s = i ∧ i ≤ 4096 ∧ ∀ j, j < i → l.all (evalB (bitsB j)) = false) (fun s => 4096 - s.toNat) (fun r : Bool × List Bool => r.1 = openB l) ?_ 0 ⟨0, rfl, by omega, fun j hj => by omega⟩
  · obtain ⟨r, h1, h2⟩ := key
    rw [h1, bind_s, h2]
  rintro s ⟨i, rfl, hi, hpre⟩
  unfold spec_NextSolution_l1
  rcases Nat.lt_or_ge i 4096 with h3 | h3
  · rw [cdec_pos (by omega), spec_l5Values_eq (by omega), bind_s, spec_l3All_eq h (probB_all hp) (bitsB_len i), bind_s]
    cases hq : l.all (evalB (bitsB i)) with
    | true =>
      right
      rw [ctt, bind_s]
      refine ⟨_, rfl, ?_⟩
      unfold openB
      rw [List.any_eq_true.2 ⟨i, List.mem_range.2 h3, hq⟩]
    | false =>
      left
      rw [cff, rq_i64 (by omega) (by omega)]
      refine ⟨_, rfl, ⟨i + 1, by simp, by omega, fun j hj => ?_⟩, by omega⟩
      rcases Nat.lt_or_ge j i with h4 | h4
      · exact hpre j h4
      · rw [show j = i by omega]; exact hq
  · right
    have : i = 4096 := by omega
    subst this
    rw [cdec_neg (by omega)]
    refine ⟨_, rfl, ?_⟩
    unfold openB
    rw [List.any_eq_false.2 (fun j hj => by rw [hpre j (List.mem_range.1 hj)]; simp)]

theorem openB_sols (l : List (List (Int × Int) × Int)) : openB l = decide (0 < solsB l) := by
  unfold openB solsB allB
  rw [Bool.eq_iff_iff, List.any_eq_true, decide_eq_true_iff, List.countP_pos_iff]
  constructor
  · rintro ⟨i, hi, hq⟩
    exact ⟨numB i, List.mem_map.2 ⟨i, hi, rfl⟩, by rw [numB_bits (by have := List.mem_range.1 hi; omega)]; exact hq⟩
  · rintro ⟨v, hv, hq⟩
    obtain ⟨i, hi, rfl⟩ := List.mem_map.1 hv
    exact ⟨i, hi, by rw [numB_bits (by have := List.mem_range.1 hi; omega)] at hq; exact hq⟩

/-- Fewer constraints, more solutions. -/
theorem openB_sub {l m : List (List (Int × Int) × Int)} (h : ∀ x ∈ m, x ∈ l) (ho : openB l = true) : openB m = true := by
  unfold openB at ho ⊢
  rw [List.any_eq_true] at ho ⊢
  obtain ⟨i, hi, hq⟩ := ho
  rw [List.all_eq_true] at hq
  exact ⟨i, hi, List.all_eq_true.2 fun x hx => hq x (h x hx)⟩

/-! ### Places left out -/

def idsB (n : Nat) : List Int := (List.range n).map (fun (i : Nat) => (i : Int))
theorem idsB_len (n : Nat) : (idsB n).length = n := by simp [idsB]
theorem idsB_mem {n : Nat} {x : Int} : x ∈ idsB n ↔ 0 ≤ x ∧ x < n := by
  unfold idsB
  rw [List.mem_map]
  constructor
  · rintro ⟨i, hi, rfl⟩
    have := List.mem_range.1 hi
    omega
  · rintro ⟨h1, h2⟩
    exact ⟨x.toNat, List.mem_range.2 (by omega), by omega⟩
theorem idsB_succ (n : Nat) : idsB (n + 1) = idsB n ++ [(n : Int)] := by simp [idsB, List.range_succ]

theorem impl_indices_eq {n : Nat} (h : n ≤ 4000000) : impl_indices n = some (idsB n) := by
  unfold impl_indices
  refine loop_fn (fun s : Int × List Int => ∃ i : Nat, s.1 = i ∧ i ≤ n ∧ s.2 = idsB i) (fun s => n - s.1.toNat) (fun _ => idsB n) ?_ _ ⟨0, rfl, by omega, rfl⟩
  rintro ⟨s, out⟩ ⟨i, rfl, hi, ho⟩
  dsimp only at ho ⊢
  subst ho
  unfold impl_indices_l1
  dsimp only
  rcases Nat.lt_or_ge i n with h1 | h1
  · left
    rw [cdec_pos (by omega), rq_pos (by rw [idsB_len]; simp [bound]; omega), rq_i64 (by omega) (by omega)]
    exact ⟨_, rfl, ⟨i + 1, by simp, by omega, by rw [idsB_succ]⟩, by dsimp only; omega, rfl⟩
  · right
    rw [cdec_neg (by omega), show i = n by omega]

theorem spec_l11Count_eq {n : Nat} (h : n ≤ 4000000) : spec_l11Count n = some (idsB n) := by
  unfold spec_l11Count
  refine loop_fn (fun s : Int × List Int => ∃ i : Nat, s.1 = i ∧ i ≤ n ∧ s.2 = idsB i) (fun s => n - s.1.toNat) (fun _ => idsB n) ?_ _ ⟨0, rfl, by omega, rfl⟩
  rintro ⟨s, out⟩ ⟨i, rfl, hi, ho⟩
  dsimp only at ho ⊢
  subst ho
  unfold spec_l11Count_l1
  dsimp only
  rcases Nat.lt_or_ge i n with h1 | h1
  · left
    rw [cdec_pos (by omega), rq_pos (by rw [idsB_len]; simp [bound]; omega), rq_i64 (by omega) (by omega)]
    exact ⟨_, rfl, ⟨i + 1, by simp, by omega, by rw [idsB_succ]⟩, by dsimp only; omega, rfl⟩
  · right
    rw [cdec_neg (by omega), show i = n by omega]

/-- The row without the number k. -/
def outB (l : List Int) (k : Int) : List Int := l.filter (fun x => x != k)

theorem set_take_drop {α : Type} {s : List α} {i j : Nat} {x : α} (h : i < s.length) (hij : i ≤ j) : (s.set i x).take (i + 1) = s.take i ++ [x] ∧ (s.set i x).drop (j + 1) = s.drop (j + 1) := by
  constructor
  · apply List.ext_getElem?
    intro q
    rw [List.getElem?_take, List.getElem?_set]
    by_cases h1 : q < i
    · rw [if_pos (by omega), if_neg (by omega), List.getElem?_append_left (by simp; omega), List.getElem?_take, if_pos h1]
    · by_cases h2 : q = i
      · subst h2
        rw [if_pos (by omega), if_pos rfl, if_pos h, List.getElem?_append_right (by simp; omega)]
        simp [Nat.min_eq_left (Nat.le_of_lt h)]
      · rw [if_neg (by omega), List.getElem?_eq_none]
        simp; omega
  · apply List.ext_getElem?
    intro q
    rw [List.getElem?_drop, List.getElem?_drop, List.getElem?_set, if_neg (by omega)]

theorem take_filter_snoc {α : Type} {l : List α} {p : α → Bool} {j : Nat} (d : α) (h : j < l.length) : (l.take (j + 1)).filter p = (l.take j).filter p ++ (bif p (l.getD j d) then [l.getD j d] else []) := by
  rw [take_snoc d h, List.filter_append]
  congr 1

theorem impl_without_eq {l : List Int} {k : Int} (h : l.length ≤ 4000000) : impl_without l k = some (outB l k) := by
  unfold impl_without
  rw [Clone_int_eq l (by omega), bind_s]
  unfold slices_DeleteFunc_int__impl_without_1 slices_IndexFunc_int__impl_without_1
  have key := loop_ex (f := slices_IndexFunc_int__impl_without_1_l1 l k) (fun s : Int => ∃ i : Nat, s = i ∧ i ≤ l.length ∧ ∀ j, j < i → l.getD j 0 ≠ k) (fun s => l.length - s.toNat)
    (fun r : Int => (r = -1 ∧ ∀ j, j < l.length → l.getD j 0 ≠ k) ∨ ∃ i : Nat, r = i ∧ i < l.length ∧ l.getD i 0 = k ∧ ∀ j, j < i → l.getD j 0 ≠ k) ?_ 0 ⟨0, rfl, by omega, fun j hj => by omega⟩
  · obtain ⟨r, h1, h2⟩ := key
    rw [h1, bind_s]
    rcases h2 with ⟨rfl, h2⟩ | ⟨i, rfl, hi, h3, h4⟩
    · rw [cbeq_pos rfl, bind_s]
      congr 1
      unfold outB
      rw [List.filter_eq_self.2]
      intro x hx
      obtain ⟨j, hj, rfl⟩ := List.mem_iff_getElem.1 hx
      have := h2 j hj
      rw [List.getD_eq_getElem?_getD, List.getElem?_eq_getElem hj] at this
      simpa using this
    · rw [cbeq_neg (by omega), rq_i64 (by omega) (by omega)]
      have hl := loop_fn (f := slices_DeleteFunc_int__impl_without_1_l1 k) (fun s : Int × Int × List Int => ∃ i j : Nat, s.1 = i ∧ s.2.1 = j ∧ i < j ∧ j ≤ l.length ∧ s.2.2.length = l.length ∧ s.2.2.take i = (l.take j).filter (fun x => x != k) ∧ s.2.2.drop j = l.drop j)
        (fun s => l.length - s.2.1.toNat) (fun _ => outB l k) ?_ ((i : Int), (i : Int) + 1, l) ⟨i, i + 1, rfl, by simp, by omega, by omega, rfl, ?_, rfl⟩
      · rw [hl, bind_s]
      · rintro ⟨_, _, s⟩ ⟨i', j', rfl, rfl, q1, q2, q3, q4, q5⟩
        dsimp only at q3 q4 q5 ⊢
        unfold slices_DeleteFunc_int__impl_without_1_l1 impl_without_1
        dsimp only
        rcases Nat.lt_or_ge j' l.length with q6 | q6
        · left
          have hg : s.getD j' 0 = l.getD j' 0 := by
            have := congrArg (fun m => m[0]?) q5
            simp only [List.getElem?_drop, Nat.add_zero] at this
            rw [List.getD_eq_getElem?_getD, List.getD_eq_getElem?_getD, this]
          rw [cdec_pos (by omega), rq_pos ⟨by omega, by omega⟩, bind_s, Int.toNat_natCast, Int.toNat_natCast, hg]
          have hd : s.drop (j' + 1) = l.drop (j' + 1) := by rw [← List.drop_drop, ← List.drop_drop, q5]
          cases hq : (l.getD j' 0 == k) with
          | true =>
            rw [cnt, rq_i64 (by omega) (by omega)]
            refine ⟨_, rfl, ⟨i', j' + 1, rfl, by simp, by omega, by omega, q3, ?_, hd⟩, by dsimp only; omega, rfl⟩
            rw [take_filter_snoc 0 q6, bne, hq, Bool.not_true, cff, List.append_nil]
            exact q4
          | false =>
            rw [cnf, rq_pos ⟨by omega, by omega⟩, rq_i64 (by omega) (by omega), rq_i64 (by omega) (by omega)]
            obtain ⟨t1, t2⟩ := set_take_drop (s := s) (i := i') (j := j') (x := l.getD j' 0) (by omega) (by omega)
            refine ⟨_, rfl, ⟨i' + 1, j' + 1, by simp, by simp, by omega, by omega, by simp [q3], ?_, ?_⟩, by dsimp only; omega, rfl⟩
            · dsimp only
              rw [t1, q4, take_filter_snoc 0 q6, bne, hq, Bool.not_false, ctt]
            · dsimp only
              rw [t2, hd]
        · right
          have : j' = l.length := by omega
          subst this
          rw [cdec_neg (by omega)]
          unfold slices_DeleteFunc_int__impl_without_1_j1
          dsimp only
          rw [rq_pos ⟨by omega, by omega⟩, rq_pos ⟨by omega, by simp; omega⟩, Int.toNat_natCast, List.take_append_of_le_length (by simp; omega), List.take_take, Nat.min_self, q4, List.take_of_length_le (Nat.le_refl _)]
          rfl
      · rw [take_filter_snoc 0 hi, bne, h3, beq_self_eq_true, Bool.not_true, cff, List.append_nil]
        symm
        rw [List.filter_eq_self]
        intro x hx
        obtain ⟨j, hj, rfl⟩ := List.mem_iff_getElem.1 hx
        rw [List.length_take] at hj
        have := h4 j (by omega)
        rw [List.getD_eq_getElem?_getD, List.getElem?_eq_getElem (by omega)] at this
        rw [List.getElem_take]
        simpa using this
  · rintro s ⟨i, rfl, hi, hpre⟩
    unfold slices_IndexFunc_int__impl_without_1_l1 impl_without_1
    rcases Nat.lt_or_ge i l.length with h1 | h1
    · rw [cdec_pos (by omega), rq_pos ⟨by omega, by omega⟩, bind_s, Int.toNat_natCast]
      cases hq : (l.getD i 0 == k) with
      | true =>
        right
        exact ⟨_, rfl, .inr ⟨i, rfl, h1, by simpa using hq, hpre⟩⟩
      | false =>
        left
        rw [cff, rq_i64 (by omega) (by omega)]
        refine ⟨_, rfl, ⟨i + 1, by simp, by omega, fun j hj => ?_⟩, by omega⟩
        rcases Nat.lt_or_ge j i with h2 | h2
        · exact hpre j h2
        · rw [show j = i by omega]; simpa using hq
    · right
      rw [cdec_neg (by omega)]
      exact ⟨_, rfl, .inl ⟨rfl, fun j hj => hpre j (by omega)⟩⟩

theorem spec_l11Without_eq {l : List Int} {i : Nat} (h : l.length ≤ 4000000) (hi : i < l.length) : spec_l11Without l i = some (l.take i ++ l.drop (i + 1)) := by
  unfold spec_l11Without
  rw [rq_i64 (by omega) (by omega), rq_pos ⟨by omega, by omega⟩, List.nil_append, rq_pos (by simp [bound]; omega), rq_pos ⟨by omega, by omega⟩, rq_pos (by simp [bound]; omega), Int.toNat_natCast, show ((i : Int) + 1).toNat = i + 1 by omega]

/-- Of a row whose elements differ, the element at place i is left out. -/
theorem outB_at {l : List Int} (hn : l.Nodup) {i : Nat} (hi : i < l.length) : outB l (l.getD i 0) = l.take i ++ l.drop (i + 1) := by
  have hg : l.getD i 0 = l[i] := by rw [List.getD_eq_getElem?_getD, List.getElem?_eq_getElem hi]; rfl
  unfold outB
  rw [hg]
  generalize hx : l[i] = y
  have hl : l = l.take i ++ y :: l.drop (i + 1) := by rw [← hx, ← List.drop_eq_getElem_cons hi, List.take_append_drop]
  conv => lhs; rw [hl]
  rw [List.filter_append, List.filter_cons]
  subst hx
  have e1 : (l.take i).filter (fun x => x != l[i]) = l.take i := by
    rw [List.filter_eq_self]
    intro x hx
    obtain ⟨j, hj, rfl⟩ := List.mem_iff_getElem.1 hx
    rw [List.length_take] at hj
    rw [List.getElem_take, bne_iff_ne]
    intro e
    exact List.pairwise_iff_getElem.1 hn j i (by omega) hi (by omega) e
  have e2 : (l.drop (i + 1)).filter (fun x => x != l[i]) = l.drop (i + 1) := by
    rw [List.filter_eq_self]
    intro x hx
    obtain ⟨j, hj, rfl⟩ := List.mem_iff_getElem.1 hx
    rw [List.length_drop] at hj
    rw [List.getElem_drop, bne_iff_ne]
    intro e
    exact List.pairwise_iff_getElem.1 hn i (i + 1 + j) hi (by omega) (by omega) e.symm
  rw [e1, e2]
  simp

end Go.AE.Y
