/-
  Plain laws: valid models.
-/
import Derived.Test.YtpjbfmifmikloaaP11
namespace Go.AE.Y
open Go Go.AE

abbrev RuleT := Int × List Int × List Int × Int × List (List Int)
abbrev ModT := List Int × List RuleT

/-- The number at place i lies below n and does not stand ahead of i. -/
def freshAt (l : List Int) (n : Int) (i : Nat) : Bool := (decide (0 ≤ l.getD i 0) && decide (l.getD i 0 ≤ n - 1)) && !((l.take i).any (fun x => l.getD i 0 == x))
def freshB (l : List Int) (n : Int) : Bool := (List.range l.length).all (freshAt l n)
def coefB (n : Int) : Bool := n != 0 && (decide (-9 ≤ n) && decide (n ≤ 9))
def cellB (n : Int) : Bool := decide (0 ≤ n) && decide (n ≤ 3)
def linB (r : RuleT) : Bool := decide ((r.2.2.1.length : Int) = r.2.1.length) && ((decide (-1000 ≤ r.2.2.2.1) && decide (r.2.2.2.1 ≤ 1000)) && r.2.2.1.all coefB)
def rowB (r : RuleT) (row : List Int) : Bool := decide ((row.length : Int) = r.2.1.length) && row.all cellB
def tabB (r : RuleT) : Bool := decide ((r.2.2.2.2.length : Int) ≤ 8) && r.2.2.2.2.all (rowB r)
def kindB (r : RuleT) : Bool := bif r.1 == 1 then linB r else bif r.1 == 3 then tabB r else bif r.1 == 4 then decide (r.2.1.length = 2) else r.1 == 2
def spareB (r : RuleT) : Bool := (r.1 == 1 || (decide (r.2.2.1.length = 0) && r.2.2.2.1 == 0)) && (r.1 == 3 || decide (r.2.2.2.2.length = 0))
def ruleB (n : Int) (r : RuleT) : Bool := freshB r.2.1 n && (decide (1 ≤ r.2.1.length) && (spareB r && kindB r))
def sumZ (l : List Int) : Int := l.foldl (fun a n => a + (n + 1)) 0
def modB (m : ModT) : Bool := (decide (1 ≤ m.1.length) && decide (m.1.length ≤ 5)) && (decide (m.2.length ≤ 8) && (m.1.all cellB && (decide (sumZ m.1 ≤ 12) && m.2.all (ruleB m.1.length))))

/-- Rows that are not too long. -/
def smallR (r : RuleT) : Prop := r.2.1.length ≤ 1048576 ∧ r.2.2.1.length ≤ 1048576 ∧ r.2.2.2.2.length ≤ 1048576 ∧ ∀ x ∈ r.2.2.2.2, x.length ≤ 1048576
def smallM (m : ModT) : Prop := m.1.length ≤ 1048576 ∧ m.2.length ≤ 1048576 ∧ ∀ r ∈ m.2, smallR r

theorem Contains_int_eq (s : List Int) (v : Int) (h : s.length ≤ 4000000000) : slices_Contains_int s v = some (s.any (fun x => v == x)) := by
  unfold slices_Contains_int slices_Index_int
  obtain ⟨r, hr1, hr2⟩ := loop_find (f := slices_Index_int_l1 s v) s 0 (fun x => v == x) (fun i hi => by
    unfold slices_Index_int_l1
    rw [cdec_pos (by omega), rq_pos ⟨by omega, by omega⟩, Int.toNat_natCast]
    cases v == s.getD i 0 with
    | true => rw [ctt, ctt]
    | false => rw [cff, cff, rq_i64 (by omega) (by omega)]) (by
    unfold slices_Index_int_l1
    rw [cdec_neg (by omega)])
  rw [hr1, bind_s, hr2]

theorem any_take {l : List Int} {i : Nat} (hi : i ≤ l.length) (v : Int) : (l.take i).any (fun x => v == x) = !(List.range i).all (fun k => !(l.getD k 0 == v)) := by
  have hl : (l.take i).length = i := by rw [List.length_take]; omega
  have h := all_range (l.take i) (fun x => !(v == x)) 0
  rw [hl] at h
  rw [List.any_eq_not_all_not, ← h]
  congr 1
  rw [Bool.eq_iff_iff, List.all_eq_true, List.all_eq_true]
  refine forall_congr' fun k => forall_congr' fun hk => ?_
  have hk := List.mem_range.1 hk
  have e : (l.take i).getD k 0 = l.getD k 0 := by rw [List.getD_eq_getElem?_getD, List.getElem?_take, if_pos hk, List.getD_eq_getElem?_getD]
  rw [e]
  simp only [Bool.not_eq_true', beq_eq_false_iff_ne, ne_eq]
  exact ⟨fun h e => h e.symm, fun h e => h e.symm⟩

theorem slices_ruleValid_1 (l : List Int) (h : l.length ≤ 4000000000) : slices_ContainsFunc_int__impl_ruleValid_1 l = some (!l.all coefB) := by
  unfold slices_ContainsFunc_int__impl_ruleValid_1 slices_IndexFunc_int__impl_ruleValid_1
  obtain ⟨r, hr1, hr2⟩ := loop_find (f := slices_IndexFunc_int__impl_ruleValid_1_l1 l) l 0 (fun x => !coefB x) (fun i hi => by
    unfold slices_IndexFunc_int__impl_ruleValid_1_l1 impl_ruleValid_1
    rw [cdec_pos (by omega), rq_pos ⟨by omega, by omega⟩, Int.toNat_natCast]
    unfold coefB
    cases hz : (l.getD i 0 == 0) with
    | true => rw [ctt, bind_s, ctt, bne, hz]; rfl
    | false =>
      rw [cff, impl_within_eq, bind_s, bind_s, bne, hz, Bool.not_false, Bool.true_and]
      cases (decide (-9 ≤ l.getD i 0) && decide (l.getD i 0 ≤ 9)) with
      | true => rw [cnt, rq_i64 (by omega) (by omega), cnt]
      | false => rw [cnf, cnf]) (by
    unfold slices_IndexFunc_int__impl_ruleValid_1_l1
    rw [cdec_neg (by omega)])
  rw [hr1, bind_s, hr2, List.any_eq_not_all_not]
  simp only [Bool.not_not]

theorem slices_ruleValid_2_1 (l : List Int) (h : l.length ≤ 4000000000) : slices_ContainsFunc_int__impl_ruleValid_2_1 l = some (!l.all cellB) := by
  unfold slices_ContainsFunc_int__impl_ruleValid_2_1 slices_IndexFunc_int__impl_ruleValid_2_1
  obtain ⟨r, hr1, hr2⟩ := loop_find (f := slices_IndexFunc_int__impl_ruleValid_2_1_l1 l) l 0 (fun x => !cellB x) (fun i hi => by
    unfold slices_IndexFunc_int__impl_ruleValid_2_1_l1 impl_ruleValid_2_1
    rw [cdec_pos (by omega), rq_pos ⟨by omega, by omega⟩, Int.toNat_natCast, impl_within_eq, bind_s, bind_s]
    unfold cellB
    cases (decide (0 ≤ l.getD i 0) && decide (l.getD i 0 ≤ 3)) with
    | true => rw [cnt, rq_i64 (by omega) (by omega), cnt]
    | false => rw [cnf, cnf]) (by
    unfold slices_IndexFunc_int__impl_ruleValid_2_1_l1
    rw [cdec_neg (by omega)])
  rw [hr1, bind_s, hr2, List.any_eq_not_all_not]
  simp only [Bool.not_not]

theorem slices_ruleValid_2 (r0 : RuleT) (h : smallR r0) : slices_ContainsFunc_s_int__impl_ruleValid_2 r0.2.2.2.2 r0 = some (!r0.2.2.2.2.all (rowB r0)) := by
  obtain ⟨h1, h2, h3, h4⟩ := h
  unfold slices_ContainsFunc_s_int__impl_ruleValid_2 slices_IndexFunc_s_int__impl_ruleValid_2
  obtain ⟨r, hr1, hr2⟩ := loop_find (f := slices_IndexFunc_s_int__impl_ruleValid_2_l1 r0.2.2.2.2 r0) r0.2.2.2.2 [] (fun x => !rowB r0 x) (fun i hi => by
    have hx := h4 _ (getD_mem (d := []) hi)
    unfold slices_IndexFunc_s_int__impl_ruleValid_2_l1 impl_ruleValid_2
    rw [cdec_pos (by omega), rq_pos ⟨by omega, by omega⟩, Int.toNat_natCast]
    unfold rowB
    by_cases hl : ((r0.2.2.2.2.getD i []).length : Int) = r0.2.1.length
    · rw [cbne_neg hl, slices_ruleValid_2_1 _ (by omega), bind_s, bind_s, decide_eq_true hl, Bool.true_and]
      cases (r0.2.2.2.2.getD i []).all cellB with
      | true => rw [cnt, rq_i64 (by omega) (by omega), cnt]
      | false => rw [cnf, cnf]
    · rw [cbne_pos hl, bind_s, ctt, decide_eq_false hl, Bool.false_and, cnf]) (by
    unfold slices_IndexFunc_s_int__impl_ruleValid_2_l1
    rw [cdec_neg (by omega)])
  rw [hr1, bind_s, hr2, List.any_eq_not_all_not]
  simp only [Bool.not_not]

theorem impl_ruleValid_tail (r : RuleT) (h : smallR r) : impl_ruleValid_j1 r () = some (.inr (kindB r)) := by
  obtain ⟨h1, h2, h3, h4⟩ := h
  unfold impl_ruleValid_j1 kindB
  cases r.1 == 1 with
  | true =>
    rw [ctt, ctt]
    unfold linB
    by_cases hl : (r.2.2.1.length : Int) = r.2.1.length
    · rw [cbeq_pos hl, decide_eq_true hl, Bool.true_and, impl_within_eq, bind_s]
      cases (decide (-1000 ≤ r.2.2.2.1) && decide (r.2.2.2.1 ≤ 1000)) with
      | true => rw [ctt, slices_ruleValid_1 _ (by omega), bind_s, Bool.true_and, Bool.not_not]
      | false => rw [cff, Bool.false_and]
    · rw [cbeq_neg hl, decide_eq_false hl, Bool.false_and]
  | false =>
    rw [cff, cff]
    cases r.1 == 3 with
    | true =>
      rw [ctt, ctt]
      unfold tabB
      by_cases hl : (r.2.2.2.2.length : Int) ≤ 8
      · rw [cdec_pos hl, decide_eq_true hl, Bool.true_and, slices_ruleValid_2 r ⟨h1, h2, h3, h4⟩, bind_s, Bool.not_not]
      · rw [cdec_neg hl, decide_eq_false hl, Bool.false_and]
    | false =>
      rw [cff, cff]
      cases r.1 == 4 with
      | true =>
        rw [ctt, ctt]
        congr 2
        rw [Bool.eq_iff_iff, beq_iff_eq, decide_eq_true_iff]
        omega
      | false => rw [cff, cff]

theorem impl_ruleValid_eq (r : RuleT) (n : Int) (h : smallR r) (hn : 0 ≤ n ∧ n ≤ 4000000000) : impl_ruleValid r n = some (ruleB n r) := by
  have hs := h
  obtain ⟨h1, h2, h3, h4⟩ := h
  unfold impl_ruleValid ruleB freshB
  rw [loop_all r.2.1.length (freshAt r.2.1 n) false (decide (1 ≤ r.2.1.length) && (spareB r && kindB r))]
  · cases (List.range r.2.1.length).all (freshAt r.2.1 n) <;> rfl
  · intro i hi _
    unfold impl_ruleValid_l1 freshAt
    rw [cdec_pos (by omega), rq_pos ⟨by omega, by omega⟩, rq_i64 (by omega) (by omega), Int.toNat_natCast, impl_within_eq, bind_s]
    cases (decide (0 ≤ r.2.1.getD i 0) && decide (r.2.1.getD i 0 ≤ n - 1)) with
    | false => rw [cnf, Bool.false_and, cff]
    | true =>
      rw [cnt, Bool.true_and, rq_pos ⟨by omega, by omega⟩, Contains_int_eq _ _ (by rw [List.length_take]; omega), bind_s]
      cases (r.2.1.take i).any (fun x => r.2.1.getD i 0 == x) with
      | true => rw [ctt, cnt]
      | false => rw [cff, rq_i64 (by omega) (by omega), cnf]
  · unfold impl_ruleValid_l1
    rw [cdec_neg (by omega)]
    by_cases h0 : r.2.1.length = 0
    · rw [cbeq_pos (by omega), show decide (1 ≤ r.2.1.length) = false from decide_eq_false (by omega), Bool.false_and]
    · rw [cbeq_neg (by omega), show decide (1 ≤ r.2.1.length) = true from decide_eq_true (by omega), Bool.true_and, impl_ruleValid_tail r hs]
      unfold spareB
      have e3 : (r.1 != 3) = !(r.1 == 3) := rfl
      have e1 : (r.1 != 1) = !(r.1 == 1) := rfl
      rw [e1, e3]
      have hrows : (cond (decide ((0:Int) < (r.2.2.2.2.length:Int))) (some (Sum.inr false)) (some (Sum.inr (kindB r))) : Option (Int ⊕ Bool)) = some (Sum.inr (decide (r.2.2.2.2.length = 0) && kindB r)) := by
        by_cases hq : (0 : Int) < r.2.2.2.2.length
        · rw [cdec_pos hq, show decide (r.2.2.2.2.length = 0) = false from decide_eq_false (by omega), Bool.false_and]
        · rw [cdec_neg hq, show decide (r.2.2.2.2.length = 0) = true from decide_eq_true (by omega), Bool.true_and]
      rw [hrows]
      cases r.1 == 1 with
      | true =>
        rw [cnt, Bool.true_or, Bool.true_and]
        cases r.1 == 3 with
        | true => rw [cnt, Bool.true_or, Bool.true_and]
        | false => rw [cnf, Bool.false_or]
      | false =>
        rw [cnf, Bool.false_or]
        by_cases hc : (0 : Int) < r.2.2.1.length
        · rw [cdec_pos hc, show decide (r.2.2.1.length = 0) = false from decide_eq_false (by omega), Bool.false_and, Bool.false_and, Bool.false_and]
        · rw [cdec_neg hc, show decide (r.2.2.1.length = 0) = true from decide_eq_true (by omega), Bool.true_and]
          have eb : (r.2.2.2.1 != 0) = !(r.2.2.2.1 == 0) := rfl
          rw [eb]
          cases r.2.2.2.1 == 0 with
          | false => rw [cnf, Bool.false_and, Bool.false_and]
          | true =>
            rw [cnt, Bool.true_and]
            cases r.1 == 3 with
            | true => rw [cnt, Bool.true_or, Bool.true_and]
            | false => rw [cnf, Bool.false_or]

theorem foldl_sum_le : ∀ (l : List Int), l.all cellB = true → 0 ≤ sumZ l ∧ sumZ l ≤ 4 * l.length := by
  have key : ∀ (l : List Int) (a : Int), l.all cellB = true → a ≤ l.foldl (fun a n => a + (n + 1)) a ∧ l.foldl (fun a n => a + (n + 1)) a ≤ a + 4 * l.length := by
    intro l
    induction l with
    | nil => intro a _; simp
    | cons x r ih =>
      intro a h
      rw [List.all_cons, Bool.and_eq_true] at h
      have hx := h.1
      unfold cellB at hx
      simp only [Bool.and_eq_true, decide_eq_true_eq] at hx
      obtain ⟨i1, i2⟩ := ih (a + (x + 1)) h.2
      rw [List.foldl_cons, List.length_cons]
      omega
  intro l h
  have := key l 0 h
  unfold sumZ
  omega

theorem impl_rules_eq (m : ModT) (h : smallM m) : slices_ContainsFunc_impl_Rule__impl_ModelValid_1 m.2 m = some (!m.2.all (ruleB m.1.length)) := by
  obtain ⟨h1, h2, h3⟩ := h
  unfold slices_ContainsFunc_impl_Rule__impl_ModelValid_1 slices_IndexFunc_impl_Rule__impl_ModelValid_1
  obtain ⟨r, hr1, hr2⟩ := loop_find (f := slices_IndexFunc_impl_Rule__impl_ModelValid_1_l1 m.2 m) m.2 (0, ([], ([], (0, [])))) (fun x => !ruleB m.1.length x) (fun i hi => by
    unfold slices_IndexFunc_impl_Rule__impl_ModelValid_1_l1 impl_ModelValid_1
    rw [cdec_pos (by omega), rq_pos ⟨by omega, by omega⟩, Int.toNat_natCast, impl_ruleValid_eq _ _ (h3 _ (getD_mem hi)) ⟨by omega, by omega⟩, bind_s, bind_s]
    cases ruleB m.1.length (m.2.getD i (0, ([], ([], (0, []))))) with
    | true => rw [cnt, rq_i64 (by omega) (by omega), cnt]
    | false => rw [cnf, cnf]) (by
    unfold slices_IndexFunc_impl_Rule__impl_ModelValid_1_l1
    rw [cdec_neg (by omega)])
  rw [hr1, bind_s, hr2, List.any_eq_not_all_not]
  simp only [Bool.not_not]

theorem sumZ_snoc (l : List Int) (x : Int) : sumZ (l ++ [x]) = sumZ l + (x + 1) := by unfold sumZ; rw [List.foldl_append]; rfl

theorem take_all {l : List Int} {i : Nat} (h : ∀ j, j < i → cellB (l.getD j 0) = true) : (l.take i).all cellB = true := by
  rw [List.all_eq_true]
  intro x hx
  obtain ⟨j, hj, rfl⟩ := List.mem_iff_getElem.1 hx
  rw [List.length_take] at hj
  have := h j (by omega)
  rw [List.getD_eq_getElem?_getD, List.getElem?_eq_getElem (by omega)] at this
  rw [List.getElem_take]
  exact this

theorem take_snoc6 {l : List Int} {i : Nat} (h : i < l.length) : l.take (i + 1) = l.take i ++ [l.getD i 0] := by
  rw [List.take_add_one, List.getD_eq_getElem?_getD, List.getElem?_eq_getElem h]
  rfl

theorem impl_ModelValid_eq (m : ModT) (h : smallM m) : impl_ModelValid m = some (modB m) := by
  have hs := h
  obtain ⟨h1, h2, h3⟩ := h
  unfold impl_ModelValid modB
  rw [impl_within_eq, bind_s, show decide ((1 : Int) ≤ m.1.length) = decide (1 ≤ m.1.length) from decide_eq_decide.2 (by omega), show decide ((m.1.length : Int) ≤ 5) = decide (m.1.length ≤ 5) from decide_eq_decide.2 (by omega)]
  cases hw : (decide (1 ≤ m.1.length) && decide (m.1.length ≤ 5)) with
  | false => rw [cnf, Bool.false_and]
  | true =>
    simp only [Bool.and_eq_true, decide_eq_true_eq] at hw
    rw [cnt, Bool.true_and]
    by_cases h8 : m.2.length ≤ 8
    · rw [cdec_neg (by omega), decide_eq_true h8, Bool.true_and]
      refine loop_fn (fun s : Int × Int => ∃ i : Nat, s.2 = i ∧ i ≤ m.1.length ∧ s.1 = sumZ (m.1.take i) ∧ ∀ j, j < i → cellB (m.1.getD j 0) = true) (fun s => m.1.length - s.2.toNat) (fun _ => m.1.all cellB && (decide (sumZ m.1 ≤ 12) && m.2.all (ruleB m.1.length))) ?_ _ ⟨0, rfl, Nat.zero_le _, rfl, fun j hj => by omega⟩
      rintro ⟨c, s⟩ ⟨i, rfl, hi, hc, hpre⟩
      dsimp only at hc ⊢
      subst hc
      have hb := foldl_sum_le _ (take_all hpre)
      rw [List.length_take] at hb
      unfold impl_ModelValid_l1
      dsimp only
      rcases Nat.lt_or_ge i m.1.length with h5 | h5
      · rw [cdec_pos (by omega), rq_pos ⟨by omega, by omega⟩, Int.toNat_natCast, impl_within_eq, bind_s]
        cases hq : (decide (0 ≤ m.1.getD i 0) && decide (m.1.getD i 0 ≤ 3)) with
        | false =>
          right
          rw [cnf, List.all_eq_false.2 ⟨_, getD_mem h5, by unfold cellB; rw [hq]; simp⟩, Bool.false_and]
        | true =>
          left
          have hq2 := hq
          simp only [Bool.and_eq_true, decide_eq_true_eq] at hq2
          rw [cnt, rq_i64 (by omega) (by omega), rq_i64 (by omega) (by omega), rq_i64 (by omega) (by omega)]
          refine ⟨_, rfl, ⟨i + 1, by simp, by omega, ?_, fun j hj => ?_⟩, by dsimp only; omega, rfl⟩
          · dsimp only
            rw [take_snoc6 h5, sumZ_snoc]
          · rcases Nat.lt_or_ge j i with h6 | h6
            · exact hpre j h6
            · rw [show j = i by omega]; exact hq
      · right
        have : i = m.1.length := by omega
        subst this
        have hall : m.1.all cellB = true := by
          have := take_all hpre
          rwa [List.take_of_length_le (Nat.le_refl _)] at this
        rw [cdec_neg (by omega), hall, Bool.true_and, List.take_of_length_le (Nat.le_refl _)]
        by_cases h12 : sumZ m.1 ≤ 12
        · rw [cdec_pos h12, decide_eq_true h12, Bool.true_and, impl_rules_eq m hs, bind_s, Bool.not_not]
        · rw [cdec_neg h12, decide_eq_false h12, Bool.false_and]
    · rw [cdec_pos (by omega), decide_eq_false h8, Bool.false_and]

/-! ### The reference -/

theorem spec_l6Vars_in {l : List Int} {i : Nat} (h : l.length ≤ 4000000000) (hi : i < l.length) : loop (spec_l6Vars_l2 l i) (0 : Int) = some (bif (l.take i).any (fun x => l.getD i 0 == x) then Sum.inr false else Sum.inl ((i : Int) + 1)) := by
  rw [any_take (by omega), loop_all i (fun k => !(l.getD k 0 == l.getD i 0)) (Sum.inr false) (Sum.inl ((i : Int) + 1))]
  · cases (List.range i).all (fun k => !(l.getD k 0 == l.getD i 0)) <;> rfl
  · intro k hk _
    unfold spec_l6Vars_l2
    rw [cdec_pos (by omega), rq_pos ⟨by omega, by omega⟩, rq_pos ⟨by omega, by omega⟩, Int.toNat_natCast, Int.toNat_natCast]
    cases l.getD k 0 == l.getD i 0 with
    | true => rw [ctt, Bool.not_true, cff]
    | false => rw [cff, rq_i64 (by omega) (by omega), Bool.not_false, ctt]
  · unfold spec_l6Vars_l2
    rw [cdec_neg (by omega), rq_i64 (by omega) (by omega)]

theorem spec_l6Vars_eq (m : ModT) (l : List Int) (h : l.length ≤ 4000000000) (_hm : m.1.length ≤ 4000000000) : spec_l6Vars m l = some (freshB l m.1.length && decide (1 ≤ l.length)) := by
  unfold spec_l6Vars freshB
  rw [loop_all l.length (freshAt l m.1.length) false (decide (1 ≤ l.length))]
  · cases (List.range l.length).all (freshAt l m.1.length) <;> rfl
  · intro i hi _
    unfold spec_l6Vars_l1 freshAt
    rw [cdec_pos (by omega), rq_pos ⟨by omega, by omega⟩, Int.toNat_natCast]
    by_cases h1 : l.getD i 0 < 0
    · rw [cdec_pos h1, decide_eq_false (show ¬ 0 ≤ l.getD i 0 by omega), Bool.false_and, Bool.false_and, cff]
    · rw [cdec_neg h1, rq_pos ⟨by omega, by omega⟩, decide_eq_true (show 0 ≤ l.getD i 0 by omega), Bool.true_and]
      by_cases h2 : (m.1.length : Int) ≤ l.getD i 0
      · rw [cdec_pos h2, decide_eq_false (show ¬ l.getD i 0 ≤ (m.1.length : Int) - 1 by omega), Bool.false_and, cff]
      · rw [cdec_neg h2, decide_eq_true (show l.getD i 0 ≤ (m.1.length : Int) - 1 by omega), Bool.true_and, spec_l6Vars_in h hi]
        cases (l.take i).any (fun x => l.getD i 0 == x) with
        | true => rw [ctt, Bool.not_true, cff]
        | false => rw [cff, Bool.not_false, ctt]
  · unfold spec_l6Vars_l1
    rw [cdec_neg (by omega)]
    congr 2
    exact decide_eq_decide.2 (by omega)

theorem spec_l6Linear_eq (r : RuleT) (h : smallR r) : spec_l6Linear r = some (linB r) := by
  obtain ⟨h1, h2, h3, h4⟩ := h
  unfold spec_l6Linear linB
  rw [← all_range r.2.2.1 coefB 0, loop_all r.2.2.1.length (fun i => coefB (r.2.2.1.getD i 0)) false (decide ((r.2.2.1.length : Int) = r.2.1.length) && (decide (-1000 ≤ r.2.2.2.1) && decide (r.2.2.2.1 ≤ 1000)))]
  · cases (List.range r.2.2.1.length).all (fun i => coefB (r.2.2.1.getD i 0)) with
    | true => rw [ctt, Bool.and_true]
    | false => rw [cff, Bool.and_false, Bool.and_false]
  · intro i hi _
    unfold spec_l6Linear_l1 coefB
    rw [cdec_pos (by omega), rq_pos ⟨by omega, by omega⟩, Int.toNat_natCast]
    by_cases h5 : r.2.2.1.getD i 0 < -9
    · rw [cdec_pos h5, decide_eq_false (show ¬ -9 ≤ r.2.2.1.getD i 0 by omega), Bool.false_and, Bool.and_false, cff]
    · rw [cdec_neg h5, rq_pos ⟨by omega, by omega⟩, decide_eq_true (show -9 ≤ r.2.2.1.getD i 0 by omega), Bool.true_and]
      by_cases h6 : 9 < r.2.2.1.getD i 0
      · rw [cdec_pos h6, decide_eq_false (show ¬ r.2.2.1.getD i 0 ≤ 9 by omega), Bool.and_false, cff]
      · rw [cdec_neg h6, rq_pos ⟨by omega, by omega⟩, decide_eq_true (show r.2.2.1.getD i 0 ≤ 9 by omega), Bool.and_true, bne]
        cases r.2.2.1.getD i 0 == 0 with
        | true => rw [ctt, Bool.not_true, cff]
        | false => rw [cff, rq_i64 (by omega) (by omega), Bool.not_false, ctt]
  · unfold spec_l6Linear_l1
    rw [cdec_neg (by omega)]
    by_cases hl : (r.2.2.1.length : Int) = r.2.1.length
    · rw [cbeq_pos hl, decide_eq_true hl, Bool.true_and]
      by_cases h5 : -1000 ≤ r.2.2.2.1
      · rw [cdec_pos h5, decide_eq_true h5, Bool.true_and]
      · rw [cdec_neg h5, decide_eq_false h5, Bool.false_and]
    · rw [cbeq_neg hl, decide_eq_false hl, Bool.false_and]

theorem spec_l6Table_in (r : RuleT) (h : smallR r) {i : Nat} (hi : i < r.2.2.2.2.length) : loop (spec_l6Table_l2 r i) (0 : Int) = some (bif (r.2.2.2.2.getD i []).all cellB then Sum.inl ((i : Int) + 1) else Sum.inr false) := by
  obtain ⟨h1, h2, h3, h4⟩ := h
  have hx := h4 _ (getD_mem (d := []) hi)
  rw [← all_range (r.2.2.2.2.getD i []) cellB 0, loop_all (r.2.2.2.2.getD i []).length (fun k => cellB ((r.2.2.2.2.getD i []).getD k 0)) (Sum.inr false) (Sum.inl ((i : Int) + 1))]
  · intro k hk _
    unfold spec_l6Table_l2 cellB
    rw [rq_pos ⟨by omega, by omega⟩, Int.toNat_natCast, cdec_pos (by omega), rq_pos ⟨by omega, by omega⟩, rq_pos ⟨by omega, by omega⟩, Int.toNat_natCast]
    by_cases h5 : (r.2.2.2.2.getD i []).getD k 0 < 0
    · rw [cdec_pos h5, decide_eq_false (show ¬ 0 ≤ (r.2.2.2.2.getD i []).getD k 0 by omega), Bool.false_and, cff]
    · rw [cdec_neg h5, rq_pos ⟨by omega, by omega⟩, rq_pos ⟨by omega, by omega⟩, decide_eq_true (show 0 ≤ (r.2.2.2.2.getD i []).getD k 0 by omega), Bool.true_and]
      by_cases h6 : 3 < (r.2.2.2.2.getD i []).getD k 0
      · rw [cdec_pos h6, decide_eq_false (show ¬ (r.2.2.2.2.getD i []).getD k 0 ≤ 3 by omega), cff]
      · rw [cdec_neg h6, decide_eq_true (show (r.2.2.2.2.getD i []).getD k 0 ≤ 3 by omega), rq_i64 (by omega) (by omega), ctt]
  · unfold spec_l6Table_l2
    rw [rq_pos ⟨by omega, by omega⟩, Int.toNat_natCast, cdec_neg (by omega), rq_i64 (by omega) (by omega)]

theorem spec_l6Table_eq (r : RuleT) (h : smallR r) : spec_l6Table r = some (tabB r) := by
  have hs := h
  obtain ⟨h1, h2, h3, h4⟩ := h
  unfold spec_l6Table tabB
  rw [← all_range r.2.2.2.2 (rowB r) [], loop_all r.2.2.2.2.length (fun i => rowB r (r.2.2.2.2.getD i [])) false (decide ((r.2.2.2.2.length : Int) ≤ 8))]
  · cases (List.range r.2.2.2.2.length).all (fun i => rowB r (r.2.2.2.2.getD i [])) with
    | true => rw [ctt, Bool.and_true]
    | false => rw [cff, Bool.and_false]
  · intro i hi _
    unfold spec_l6Table_l1 rowB
    rw [cdec_pos (by omega), rq_pos ⟨by omega, by omega⟩, Int.toNat_natCast]
    by_cases hl : ((r.2.2.2.2.getD i []).length : Int) = r.2.1.length
    · rw [cbne_neg hl, decide_eq_true hl, Bool.true_and, spec_l6Table_in r hs hi]
    · rw [cbne_pos hl, decide_eq_false hl, Bool.false_and, cff]
  · unfold spec_l6Table_l1
    rw [cdec_neg (by omega)]

theorem spec_l6Rule_tail (r : RuleT) (h : smallR r) : spec_l6Rule_j1 r () = some (kindB r) := by
  unfold spec_l6Rule_j1 kindB
  cases h1 : (r.1 == 1) with
  | true => rw [ctt, ctt, spec_l6Linear_eq r h, bind_s]
  | false =>
    rw [cff, cff]
    cases h2 : (r.1 == 2) with
    | true =>
      have : r.1 = 2 := by simpa using h2
      rw [ctt, this]
      rfl
    | false =>
      rw [cff]
      cases h3 : (r.1 == 3) with
      | true => rw [ctt, ctt, spec_l6Table_eq r h, bind_s]
      | false =>
        rw [cff, cff]
        cases h4 : (r.1 == 4) with
        | true =>
          rw [ctt, ctt]
          congr 1
          rw [Bool.eq_iff_iff, beq_iff_eq, decide_eq_true_iff]
          omega
        | false => rw [cff, cff]

theorem spec_l6Rule_eq (m : ModT) (r : RuleT) (h : smallR r) (hm : m.1.length ≤ 4000000000) : spec_l6Rule m r = some (ruleB m.1.length r) := by
  have hs := h
  obtain ⟨h1, h2, h3, h4⟩ := h
  unfold spec_l6Rule ruleB
  rw [spec_l6Vars_eq m _ (by omega) hm, bind_s, spec_l6Rule_tail r hs]
  cases freshB r.2.1 m.1.length with
  | false => rw [Bool.false_and, Bool.false_and, cnf]
  | true =>
    rw [Bool.true_and, Bool.true_and]
    cases decide (1 ≤ r.2.1.length) with
    | false => rw [cnf, Bool.false_and]
    | true =>
      rw [cnt, Bool.true_and]
      unfold spareB
      have e3 : (r.1 != 3) = !(r.1 == 3) := rfl
      have e1 : (r.1 != 1) = !(r.1 == 1) := rfl
      rw [e1, e3]
      have hrows : (cond ((r.2.2.2.2.length:Int) != (0:Int)) (some false) (some (kindB r)) : Option Bool) = some (decide (r.2.2.2.2.length = 0) && kindB r) := by
        by_cases hq : r.2.2.2.2.length = 0
        · rw [cbne_neg (by omega), decide_eq_true hq, Bool.true_and]
        · rw [cbne_pos (by omega), decide_eq_false hq, Bool.false_and]
      rw [hrows]
      cases r.1 == 1 with
      | true =>
        rw [cnt, Bool.true_or, Bool.true_and]
        cases r.1 == 3 with
        | true => rw [cnt, Bool.true_or, Bool.true_and]
        | false => rw [cnf, Bool.false_or]
      | false =>
        rw [cnf, Bool.false_or]
        by_cases hc : r.2.2.1.length = 0
        · rw [cbne_neg (by omega), decide_eq_true hc, Bool.true_and]
          have eb : (r.2.2.2.1 != 0) = !(r.2.2.2.1 == 0) := rfl
          rw [eb]
          cases r.2.2.2.1 == 0 with
          | false => rw [cnf, Bool.false_and, Bool.false_and]
          | true =>
            rw [cnt, Bool.true_and]
            cases r.1 == 3 with
            | true => rw [cnt, Bool.true_or, Bool.true_and]
            | false => rw [cnf, Bool.false_or]
        · rw [cbne_pos (by omega), decide_eq_false hc, Bool.false_and, Bool.false_and, Bool.false_and]

theorem spec_ModelValid_tail (m : ModT) (c : Int) (h : smallM m) : spec_ModelValid_j1 m c = some ((decide (1 ≤ m.1.length) && decide (m.1.length ≤ 5)) && (decide (m.2.length ≤ 8) && (decide (c ≤ 12) && m.2.all (ruleB m.1.length)))) := by
  obtain ⟨h1, h2, h3⟩ := h
  unfold spec_ModelValid_j1
  by_cases q1 : 1 ≤ m.1.length
  · rw [cdec_neg (by omega), decide_eq_true q1, Bool.true_and]
    by_cases q2 : m.1.length ≤ 5
    · rw [cdec_neg (by omega), decide_eq_true q2, Bool.true_and]
      by_cases q3 : c ≤ 12
      · rw [cdec_neg (by omega), decide_eq_true q3, Bool.true_and]
        by_cases q4 : m.2.length ≤ 8
        · rw [cdec_neg (by omega), decide_eq_true q4, Bool.true_and, ← all_range m.2 (ruleB m.1.length) (0, ([], ([], (0, [])))),
            loop_all m.2.length (fun i => ruleB m.1.length (m.2.getD i (0, ([], ([], (0, [])))))) false true]
          · cases (List.range m.2.length).all (fun i => ruleB m.1.length (m.2.getD i (0, ([], ([], (0, [])))))) <;> rfl
          · intro i hi _
            unfold spec_ModelValid_l1
            rw [cdec_pos (by omega), rq_pos ⟨by omega, by omega⟩, Int.toNat_natCast, spec_l6Rule_eq m _ (h3 _ (getD_mem hi)) (by omega), bind_s]
            cases ruleB m.1.length (m.2.getD i (0, ([], ([], (0, []))))) with
            | true => rw [cnt, rq_i64 (by omega) (by omega), ctt]
            | false => rw [cnf, cff]
          · unfold spec_ModelValid_l1
            rw [cdec_neg (by omega)]
        · rw [cdec_pos (by omega), decide_eq_false q4, Bool.false_and]
      · rw [cdec_pos (by omega), decide_eq_false q3, Bool.false_and, Bool.and_false]
    · rw [cdec_pos (by omega), decide_eq_false q2, Bool.false_and]
  · rw [cdec_pos (by omega), decide_eq_false q1, Bool.false_and, Bool.false_and]

theorem spec_ModelValid_eq (m : ModT) (h : smallM m) : spec_ModelValid m = some (modB m) := by
  have hs := h
  obtain ⟨h1, h2, h3⟩ := h
  unfold spec_ModelValid
  refine loop_fn (fun s : Int × Int => ∃ i : Nat, s.2 = i ∧ i ≤ m.1.length ∧ i ≤ 5 ∧ s.1 = sumZ (m.1.take i) ∧ ∀ j, j < i → cellB (m.1.getD j 0) = true) (fun s => m.1.length - s.2.toNat) (fun _ => modB m) ?_ _ ⟨0, rfl, Nat.zero_le _, by omega, rfl, fun j hj => by omega⟩
  rintro ⟨c, s⟩ ⟨i, rfl, hi, hi5, hc, hpre⟩
  dsimp only at hc ⊢
  subst hc
  have hb := foldl_sum_le _ (take_all hpre)
  rw [List.length_take] at hb
  unfold spec_ModelValid_l2
  dsimp only
  have ups : ∀ x : Option Bool, ∀ b, x = some b → (up x : Option ((Int × Int) ⊕ Bool)) = some (.inr b) := fun x b hx => by rw [hx]; rfl
  rcases Nat.lt_or_ge i m.1.length with h5 | h5
  · rw [cdec_pos (by omega)]
    by_cases h6 : i < 5
    · rw [cdec_pos (by omega), rq_pos ⟨by omega, by omega⟩, Int.toNat_natCast]
      have bad : cellB (m.1.getD i 0) = false → modB m = false := fun hq => by
        unfold modB
        rw [List.all_eq_false.2 ⟨_, getD_mem h5, by rw [hq]; simp⟩, Bool.false_and, Bool.and_false, Bool.and_false]
      by_cases h7 : m.1.getD i 0 < 0
      · right
        rw [cdec_pos h7, bad (by unfold cellB; rw [decide_eq_false (by omega), Bool.false_and])]
      · rw [cdec_neg h7, rq_pos ⟨by omega, by omega⟩]
        by_cases h8 : 3 < m.1.getD i 0
        · right
          rw [cdec_pos h8, bad (by unfold cellB; rw [show decide (m.1.getD i 0 ≤ 3) = false from decide_eq_false (by omega), Bool.and_false])]
        · left
          rw [cdec_neg h8, rq_pos ⟨by omega, by omega⟩, rq_i64 (by omega) (by omega), rq_i64 (by omega) (by omega), rq_i64 (by omega) (by omega)]
          refine ⟨_, rfl, ⟨i + 1, by simp, by omega, by omega, ?_, fun j hj => ?_⟩, by dsimp only; omega, rfl⟩
          · dsimp only
            rw [take_snoc6 h5, sumZ_snoc]
            omega
          · rcases Nat.lt_or_ge j i with h9 | h9
            · exact hpre j h9
            · rw [show j = i by omega]
              unfold cellB
              rw [decide_eq_true (by omega), decide_eq_true (by omega)]; rfl
    · right
      rw [cdec_neg (by omega), ups _ _ (spec_ModelValid_tail m _ hs)]
      unfold modB
      rw [show decide (m.1.length ≤ 5) = false from decide_eq_false (by omega), Bool.and_false, Bool.false_and, Bool.false_and]
  · right
    have : i = m.1.length := by omega
    subst this
    have hall : m.1.all cellB = true := by
      have := take_all hpre
      rwa [List.take_of_length_le (Nat.le_refl _)] at this
    rw [cdec_neg (by omega), ups _ _ (spec_ModelValid_tail m _ hs), List.take_of_length_le (Nat.le_refl _)]
    unfold modB
    rw [hall, Bool.true_and]

end Go.AE.Y
