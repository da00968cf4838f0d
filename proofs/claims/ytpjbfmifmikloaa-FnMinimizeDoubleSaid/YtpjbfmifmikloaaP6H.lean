/-
  Plain laws: cells that keep rules.
-/
import Derived.Test.YtpjbfmifmikloaaP9
namespace Go.AE.Y
open Go Go.AE

theorem valZ_wide {c x : List Int} {n : Nat} (h : ∀ i, i < n → -27 ≤ c.getD i 0 * x.getD i 0 ∧ c.getD i 0 * x.getD i 0 ≤ 27) : -27 * (n : Int) ≤ valZ c x n ∧ valZ c x n ≤ 27 * n := by
  induction n with
  | zero => simp [valZ]
  | succ n ih =>
    have := ih (fun i hi => h i (by omega))
    have := h n (by omega)
    rw [valZ_succ]
    omega

theorem cellsB_c {m : ModT} {x : List Int} (h : cellsB m x = true) : x.length = m.1.length ∧ ∀ i, i < x.length → 0 ≤ x.getD i 0 ∧ x.getD i 0 ≤ m.1.getD i 0 := by
  unfold cellsB cellAt at h
  simp only [Bool.and_eq_true, decide_eq_true_eq, List.all_eq_true] at h
  exact ⟨h.1, fun i hi => h.2 i (List.mem_range.2 hi)⟩

theorem modB_sz {m : ModT} (hm : modB m = true) {i : Nat} (hi : i < m.1.length) : 0 ≤ m.1.getD i 0 ∧ m.1.getD i 0 ≤ 3 := by
  unfold modB at hm
  simp only [Bool.and_eq_true, decide_eq_true_eq, List.all_eq_true] at hm
  have h2 := hm.2.2.1 _ (getD_mem (l := m.1) (i := i) (d := 0) hi)
  unfold cellB at h2
  simp only [Bool.and_eq_true, decide_eq_true_eq] at h2
  omega

def freeAt (v : List Int) (i : Nat) : Bool := !((v.take i).any (fun x => v.getD i 0 == x))
def freeB (v : List Int) : Bool := (List.range v.length).all (freeAt v)
def holdsB (r : RuleT) (v : List Int) : Bool :=
  bif r.1 == 1 then decide (r.2.2.2.1 ≤ valZ r.2.2.1 v v.length) else bif r.1 == 2 then freeB v else bif r.1 == 3 then r.2.2.2.2.any (fun row => row == v) else decide (v.getD 0 0 < v.getD 1 0)
def pickF (l x : List Int) : List Int := l.map (fun v => x.getD v.toNat 0)
def solvesB (m : ModT) (x : List Int) : Bool := m.2.all (fun r => holdsB r (pickF r.2.1 x))

/-- Values that a valid rule may be asked about. -/
structure ValOk (r : RuleT) (v : List Int) : Prop where
  len : v.length = r.2.1.length
  few : v.length ≤ 1048576
  dig : ∀ i, 0 ≤ v.getD i 0 ∧ v.getD i 0 ≤ 3

theorem ruleB_at {n : Int} {r : RuleT} (h : ruleB n r = true) : (∀ i, i < r.2.1.length → 0 ≤ r.2.1.getD i 0 ∧ r.2.1.getD i 0 < n) ∧ 1 ≤ r.2.1.length ∧ kindB r = true := by
  unfold ruleB at h
  simp only [Bool.and_eq_true, decide_eq_true_eq] at h
  exact ⟨fun i hi => freshB_in h.1 hi, h.2.1, h.2.2.2⟩

theorem lin_at {r : RuleT} (h : kindB r = true) (h1 : r.1 = 1) : r.2.2.1.length = r.2.1.length ∧ ∀ i, -9 ≤ r.2.2.1.getD i 0 ∧ r.2.2.1.getD i 0 ≤ 9 := by
  unfold kindB linB at h
  rw [beq_iff_eq.2 h1, cond_true] at h
  simp only [Bool.and_eq_true, decide_eq_true_eq, List.all_eq_true] at h
  refine ⟨by omega, fun i => ?_⟩
  rcases Nat.lt_or_ge i r.2.2.1.length with h2 | h2
  · have := h.2.2 _ (getD_mem (d := 0) h2)
    unfold coefB at this
    simp only [Bool.and_eq_true, decide_eq_true_eq] at this
    exact this.2
  · rw [List.getD_eq_getElem?_getD, List.getElem?_eq_none h2]
    decide

theorem less_at {r : RuleT} (h : kindB r = true) (h1 : r.1 ≠ 1) (h2 : r.1 ≠ 2) (h3 : r.1 ≠ 3) : r.1 = 4 ∧ r.2.1.length = 2 := by
  unfold kindB at h
  rw [beq_eq_false_iff_ne.2 h1, beq_eq_false_iff_ne.2 h3, beq_eq_false_iff_ne.2 h2, cond_false, cond_false] at h
  by_cases h4 : r.1 = 4
  · rw [beq_iff_eq.2 h4, cond_true, decide_eq_true_iff] at h
    exact ⟨h4, h⟩
  · rw [beq_eq_false_iff_ne.2 h4, cond_false] at h
    cases h

theorem lin_loop {r : RuleT} {v : List Int} (h : kindB r = true) (h1 : r.1 = 1) (hv : ValOk r v) {f : Int × Int → Option ((Int × Int) ⊕ Bool)} (hf : f = impl_Rule_holds_l1 r v ∨ f = spec_l6Holds_l1 r v) :
    loop f ((0 : Int), (0 : Int)) = some (decide (r.2.2.2.1 ≤ valZ r.2.2.1 v v.length)) := by
  obtain ⟨k1, k2⟩ := lin_at h h1
  have hl := hv.len
  have hfew := hv.few
  refine loop_fn (f := f) (fun s : Int × Int => ∃ i : Nat, s.2 = i ∧ i ≤ v.length ∧ s.1 = valZ r.2.2.1 v i) (fun s => v.length - s.2.toNat) (fun _ => decide (r.2.2.2.1 ≤ valZ r.2.2.1 v v.length)) ?_ _ ⟨0, rfl, Nat.zero_le _, rfl⟩
  rintro ⟨a, s⟩ ⟨i, rfl, hi, ha⟩
  dsimp only at ha ⊢
  subst ha
  have e : f (valZ r.2.2.1 v i, (i : Int)) = cond (decide ((i : Int) < (v.length : Int))) (
      rq (0 ≤ (i : Int) ∧ (i : Int) < v.length) <| rq (0 ≤ (i : Int) ∧ (i : Int) < r.2.2.1.length) <| rq (i64 ((r.2.2.1.getD (i : Int).toNat 0) * (v.getD (i : Int).toNat 0))) <| rq (i64 (valZ r.2.2.1 v i + ((r.2.2.1.getD (i : Int).toNat 0) * (v.getD (i : Int).toNat 0)))) <| rq (i64 ((i : Int) + (1:Int))) <|
      some (.inl ((valZ r.2.2.1 v i + ((r.2.2.1.getD (i : Int).toNat 0) * (v.getD (i : Int).toNat 0))), ((i : Int) + (1:Int))))) (some (.inr (decide (r.2.2.2.1 ≤ valZ r.2.2.1 v i)))) ∨
      f (valZ r.2.2.1 v i, (i : Int)) = cond (decide ((i : Int) < (v.length : Int))) (
      rq (0 ≤ (i : Int) ∧ (i : Int) < r.2.2.1.length) <| rq (0 ≤ (i : Int) ∧ (i : Int) < v.length) <| rq (i64 ((r.2.2.1.getD (i : Int).toNat 0) * (v.getD (i : Int).toNat 0))) <| rq (i64 (valZ r.2.2.1 v i + ((r.2.2.1.getD (i : Int).toNat 0) * (v.getD (i : Int).toNat 0)))) <| rq (i64 ((i : Int) + (1:Int))) <|
      some (.inl ((valZ r.2.2.1 v i + ((r.2.2.1.getD (i : Int).toNat 0) * (v.getD (i : Int).toNat 0))), ((i : Int) + (1:Int))))) (some (.inr (decide (r.2.2.2.1 ≤ valZ r.2.2.1 v i)))) := by
    rcases hf with rfl | rfl
    · exact Or.inl rfl
    · exact Or.inr rfl
  rcases Nat.lt_or_ge i v.length with h2 | h2
  · left
    have hb := valZ_wide (c := r.2.2.1) (x := v) (n := i) (fun j _ => mul_bound (k2 j) (hv.dig j))
    have hm := mul_bound (k2 i) (hv.dig i)
    refine ⟨(valZ r.2.2.1 v (i + 1), (i : Int) + 1), ?_, ⟨i + 1, by simp, by omega, rfl⟩, by (try dsimp only) <;> omega, rfl⟩
    rcases e with e | e
    · rw [e, cdec_pos (by omega), rq_pos ⟨by omega, by omega⟩, rq_pos ⟨by omega, by omega⟩, Int.toNat_natCast, rq_i64 (by omega) (by omega), rq_i64 (by omega) (by omega), rq_i64 (by omega) (by omega), valZ_succ]
    · rw [e, cdec_pos (by omega), rq_pos ⟨by omega, by omega⟩, rq_pos ⟨by omega, by omega⟩, Int.toNat_natCast, rq_i64 (by omega) (by omega), rq_i64 (by omega) (by omega), rq_i64 (by omega) (by omega), valZ_succ]
  · right
    have : i = v.length := by omega
    subst this
    rcases e with e | e <;> rw [e, cdec_neg (by omega)]

theorem impl_free_eq {v : List Int} (hv : v.length ≤ 1048576) : loop (impl_Rule_holds_l2 v) (0 : Int) = some (freeB v) := by
  unfold freeB
  rw [loop_all v.length (freeAt v) false true]
  · cases (List.range v.length).all (freeAt v) <;> rfl
  · intro i hi _
    unfold impl_Rule_holds_l2 freeAt
    rw [cdec_pos (by omega), rq_pos ⟨by omega, by omega⟩, rq_pos ⟨by omega, by omega⟩, Int.toNat_natCast, Contains_int_eq _ _ (by rw [List.length_take]; omega), bind_s]
    cases (v.take i).any (fun x => v.getD i 0 == x) with
    | true => rw [ctt, Bool.not_true, cff]
    | false => rw [cff, rq_i64 (by omega) (by omega), Bool.not_false, ctt]
  · unfold impl_Rule_holds_l2
    rw [cdec_neg (by omega)]

theorem take_any_snoc (v : List Int) (y : Int) {k : Nat} (h : k < v.length) : (v.take (k + 1)).any (fun x => y == x) = ((v.take k).any (fun x => y == x) || y == v.getD k 0) := by
  rw [take_snoc6 h, List.any_append]
  simp only [List.any_cons, List.any_nil, Bool.or_false]

theorem spec_free_in {v : List Int} (hv : v.length ≤ 1048576) {i : Nat} (hi : i < v.length) : loop (spec_l6Holds_l3 v i) (0 : Int) = some (bif freeAt v i then .inl ((i : Int) + 1) else .inr false) := by
  refine loop_fn (f := spec_l6Holds_l3 v i) (fun s : Int => ∃ k : Nat, s = k ∧ k ≤ i ∧ (v.take k).any (fun x => v.getD i 0 == x) = false) (fun s => i - s.toNat) (fun _ => bif freeAt v i then .inl ((i : Int) + 1) else .inr false) ?_ _ ⟨0, rfl, Nat.zero_le _, rfl⟩
  rintro s ⟨k, rfl, hk, ha⟩
  unfold spec_l6Holds_l3
  rcases Nat.lt_or_ge k i with h1 | h1
  · have hs := take_any_snoc v (v.getD i 0) (k := k) (by omega)
    rw [ha, Bool.false_or] at hs
    rw [cdec_pos (by omega), rq_pos ⟨by omega, by omega⟩, rq_pos ⟨by omega, by omega⟩, Int.toNat_natCast, Int.toNat_natCast]
    by_cases hq : v.getD k 0 = v.getD i 0
    · right
      have : freeAt v i = false := by
        unfold freeAt
        rw [beq_iff_eq.2 hq.symm] at hs
        have hm : ∃ x ∈ v.take i, (v.getD i 0 == x) = true := by
          obtain ⟨x, hx, hx2⟩ := List.any_eq_true.1 hs
          exact ⟨x, (List.take_subset_take_left v (by omega)) hx, hx2⟩
        rw [List.any_eq_true.2 hm, Bool.not_true]
      rw [cbeq_pos hq, this, cff]
    · left
      rw [cbeq_neg hq, rq_i64 (by omega) (by omega)]
      rw [beq_eq_false_iff_ne.2 (fun e => hq e.symm)] at hs
      exact ⟨_, rfl, ⟨k + 1, by simp, by omega, hs⟩, by omega, rfl⟩
  · right
    have : k = i := by omega
    subst this
    unfold freeAt
    rw [cdec_neg (by omega), rq_i64 (by omega) (by omega), ha, Bool.not_false, ctt]

theorem spec_free_eq {v : List Int} (hv : v.length ≤ 1048576) : loop (spec_l6Holds_l2 v) (0 : Int) = some (freeB v) := by
  unfold freeB
  rw [loop_all v.length (freeAt v) false true]
  · cases (List.range v.length).all (freeAt v) <;> rfl
  · intro i hi _
    unfold spec_l6Holds_l2
    rw [cdec_pos (by omega), spec_free_in hv hi]
  · unfold spec_l6Holds_l2
    rw [cdec_neg (by omega)]

def sameAt (a b : List Int) (i : Nat) : Bool := a.getD i 0 == b.getD i 0

theorem same_eq_beq (a b : List Int) : (decide (a.length = b.length) && (List.range a.length).all (sameAt a b)) = (a == b) := by
  rw [Bool.eq_iff_iff]
  simp only [Bool.and_eq_true, decide_eq_true_eq, List.all_eq_true, List.mem_range, beq_iff_eq, sameAt]
  constructor
  · rintro ⟨h1, h2⟩
    apply List.ext_getElem h1
    intro j j1 j2
    have := h2 j j1
    rwa [List.getD_eq_getElem?_getD, List.getElem?_eq_getElem j1, List.getD_eq_getElem?_getD, List.getElem?_eq_getElem j2] at this
  · rintro rfl
    exact ⟨rfl, fun _ _ => rfl⟩

theorem Equal_int_eq (a b : List Int) (ha : a.length ≤ 1048576) : slices_Equal_int a b = some (a == b) := by
  unfold slices_Equal_int
  rw [← same_eq_beq]
  by_cases hl : a.length = b.length
  · rw [cbne_neg (by omega), decide_eq_true hl, Bool.true_and, loop_all a.length (sameAt a b) false true]
    · cases (List.range a.length).all (sameAt a b) <;> rfl
    · intro i hi _
      unfold slices_Equal_int_l1 sameAt
      rw [cdec_pos (by omega), rq_pos ⟨by omega, by omega⟩, rq_pos ⟨by omega, by omega⟩, Int.toNat_natCast]
      by_cases hq : a.getD i 0 = b.getD i 0
      · rw [cbne_neg hq, rq_i64 (by omega) (by omega), beq_iff_eq.2 hq, ctt]
      · rw [cbne_pos hq, beq_eq_false_iff_ne.2 hq, cff]
    · unfold slices_Equal_int_l1
      rw [cdec_neg (by omega)]
  · rw [cbne_pos (by omega), decide_eq_false hl, Bool.false_and]

theorem spec_l6Ints_eq (a b : List Int) (ha : a.length ≤ 1048576) : spec_l6Ints a b = some (a == b) := by
  unfold spec_l6Ints
  rw [← same_eq_beq]
  by_cases hl : a.length = b.length
  · rw [cbne_neg (by omega), decide_eq_true hl, Bool.true_and, loop_all a.length (sameAt a b) false true]
    · cases (List.range a.length).all (sameAt a b) <;> rfl
    · intro i hi _
      unfold spec_l6Ints_l1 sameAt
      rw [cdec_pos (by omega), rq_pos ⟨by omega, by omega⟩, rq_pos ⟨by omega, by omega⟩, Int.toNat_natCast]
      by_cases hq : a.getD i 0 = b.getD i 0
      · rw [cbne_neg hq, rq_i64 (by omega) (by omega), beq_iff_eq.2 hq, ctt]
      · rw [cbne_pos hq, beq_eq_false_iff_ne.2 hq, cff]
    · unfold spec_l6Ints_l1
      rw [cdec_neg (by omega)]
  · rw [cbne_pos (by omega), decide_eq_false hl, Bool.false_and]

theorem impl_Rule_holds_eq {r : RuleT} {v : List Int} (hs : smallR r) (h : kindB r = true) (hv : ValOk r v) : impl_Rule_holds r v = some (holdsB r v) := by
  obtain ⟨s1, s2, s3, s4⟩ := hs
  unfold impl_Rule_holds holdsB
  by_cases h1 : r.1 = 1
  · rw [cbeq_pos h1, beq_iff_eq.2 h1, ctt, lin_loop h h1 hv (Or.inl rfl)]
  · rw [cbeq_neg h1, beq_eq_false_iff_ne.2 h1, cff]
    by_cases h2 : r.1 = 2
    · rw [cbeq_pos h2, beq_iff_eq.2 h2, ctt, impl_free_eq hv.few]
    · rw [cbeq_neg h2, beq_eq_false_iff_ne.2 h2, cff]
      by_cases h3 : r.1 = 3
      · rw [cbeq_pos h3, beq_iff_eq.2 h3, ctt]
        unfold slices_ContainsFunc_s_int__impl_Rule_holds_1 slices_IndexFunc_s_int__impl_Rule_holds_1
        obtain ⟨q, hq1, hq2⟩ := loop_find (f := slices_IndexFunc_s_int__impl_Rule_holds_1_l1 r.2.2.2.2 v) r.2.2.2.2 [] (fun row => row == v) (fun i hi => by
          have hx := s4 _ (getD_mem (l := r.2.2.2.2) (i := i) (d := []) hi)
          unfold slices_IndexFunc_s_int__impl_Rule_holds_1_l1 impl_Rule_holds_1
          rw [cdec_pos (by omega), rq_pos ⟨by omega, by omega⟩, Int.toNat_natCast, Equal_int_eq _ _ hx, bind_s, bind_s]
          cases r.2.2.2.2.getD i [] == v with
          | true => rw [ctt, ctt]
          | false => rw [cff, cff, rq_i64 (by omega) (by omega)]) (by
          unfold slices_IndexFunc_s_int__impl_Rule_holds_1_l1
          rw [cdec_neg (by omega)])
        rw [hq1, bind_s, bind_s, hq2]
      · obtain ⟨_, k2⟩ := less_at h h1 h2 h3
        have hl := hv.len
        rw [cbeq_neg h3, beq_eq_false_iff_ne.2 h3, cff, rq_pos ⟨by omega, by omega⟩, rq_pos ⟨by omega, by omega⟩]
        rfl

theorem spec_holds_eq {r : RuleT} {v : List Int} (hs : smallR r) (h : kindB r = true) (hv : ValOk r v) : spec_l6Holds_j1 r v = some (holdsB r v) := by
  obtain ⟨s1, s2, s3, s4⟩ := hs
  unfold spec_l6Holds_j1 holdsB
  by_cases h1 : r.1 = 1
  · rw [cbeq_pos h1, beq_iff_eq.2 h1, ctt, lin_loop h h1 hv (Or.inr rfl)]
  · rw [cbeq_neg h1, beq_eq_false_iff_ne.2 h1, cff]
    by_cases h2 : r.1 = 2
    · rw [cbeq_pos h2, beq_iff_eq.2 h2, ctt, spec_free_eq hv.few]
    · rw [cbeq_neg h2, beq_eq_false_iff_ne.2 h2, cff]
      by_cases h3 : r.1 = 3
      · rw [cbeq_neg (by omega), beq_iff_eq.2 h3, ctt, loop_all r.2.2.2.2.length (fun i => !(r.2.2.2.2.getD i [] == v)) true false]
        · rw [all_range r.2.2.2.2 (fun row => !(row == v)) [], List.any_eq_not_all_not]
          cases r.2.2.2.2.all (fun row => !(row == v)) <;> rfl
        · intro i hi _
          have hx := s4 _ (getD_mem (l := r.2.2.2.2) (i := i) (d := []) hi)
          unfold spec_l6Holds_l4
          rw [cdec_pos (by omega), rq_pos ⟨by omega, by omega⟩, Int.toNat_natCast, spec_l6Ints_eq _ _ hx, bind_s]
          cases r.2.2.2.2.getD i [] == v with
          | true => rw [ctt, Bool.not_true, cff]
          | false => rw [cff, rq_i64 (by omega) (by omega), Bool.not_false, ctt]
        · unfold spec_l6Holds_l4
          rw [cdec_neg (by omega)]
      · obtain ⟨k1, k2⟩ := less_at h h1 h2 h3
        have hl := hv.len
        rw [cbeq_pos k1, beq_eq_false_iff_ne.2 h3, cff, rq_pos ⟨by omega, by omega⟩, rq_pos ⟨by omega, by omega⟩]
        rfl

theorem pickF_ok {m : ModT} {r : RuleT} {x : List Int} (hm : modB m = true) (hs : smallR r) (hx : cellsB m x = true) (hr : ruleB m.1.length r = true) : ValOk r (pickF r.2.1 x) := by
  obtain ⟨x1, x2⟩ := cellsB_c hx
  obtain ⟨r1, r2, r3⟩ := ruleB_at hr
  refine ⟨by unfold pickF; rw [List.length_map], by unfold pickF; rw [List.length_map]; exact hs.1, fun i => ?_⟩
  rcases Nat.lt_or_ge i r.2.1.length with h1 | h1
  · unfold pickF
    rw [getD_map r.2.1 (fun v => x.getD v.toNat 0) i 0 0 h1]
    have q1 := r1 i h1
    have q2 := x2 (r.2.1.getD i 0).toNat (by omega)
    have q3 := modB_sz hm (i := (r.2.1.getD i 0).toNat) (by omega)
    omega
  · rw [List.getD_eq_getElem?_getD, List.getElem?_eq_none (by unfold pickF; rw [List.length_map]; exact h1)]
    decide

theorem impl_Rule_at_eq {m : ModT} {r : RuleT} {x : List Int} (hm : modB m = true) (hs : smallR r) (hx : cellsB m x = true) (hr : ruleB m.1.length r = true) : impl_Rule_at r x = some (holdsB r (pickF r.2.1 x)) := by
  obtain ⟨x1, x2⟩ := cellsB_c hx
  obtain ⟨r1, r2, r3⟩ := ruleB_at hr
  have hs1 := hs.1
  unfold impl_Rule_at
  refine loop_fn (f := impl_Rule_at_l1 r x) (fun s : Int × List Int => ∃ i : Nat, s.1 = i ∧ i ≤ r.2.1.length ∧ s.2 = pickF (r.2.1.take i) x) (fun s => r.2.1.length - s.1.toNat) (fun _ => holdsB r (pickF r.2.1 x)) ?_ _ ⟨0, rfl, Nat.zero_le _, rfl⟩
  rintro ⟨s, v⟩ ⟨i, rfl, hi, rfl⟩
  dsimp only
  unfold impl_Rule_at_l1
  dsimp only
  rcases Nat.lt_or_ge i r.2.1.length with h1 | h1
  · left
    have q1 := r1 i h1
    have hl : (pickF (r.2.1.take i) x).length = i := by unfold pickF; rw [List.length_map, List.length_take]; omega
    rw [cdec_pos (by omega), rq_pos ⟨by omega, by omega⟩, Int.toNat_natCast, rq_pos ⟨by omega, by omega⟩, rq_pos (by rw [hl, List.length_singleton]; simp only [bound]; omega), rq_i64 (by omega) (by omega)]
    refine ⟨_, rfl, ⟨i + 1, by simp, by omega, ?_⟩, by (try dsimp only) <;> omega, rfl⟩
    unfold pickF
    rw [take_snoc6 h1, List.map_append]
    rfl
  · right
    have : i = r.2.1.length := by omega
    subst this
    unfold impl_Rule_at_j1
    rw [cdec_neg (by omega), List.take_length, impl_Rule_holds_eq hs r3 (pickF_ok hm hs hx hr), bind_s]
    rfl

theorem spec_l6Holds_eq {m : ModT} {r : RuleT} {x : List Int} (hm : modB m = true) (hs : smallR r) (hx : cellsB m x = true) (hr : ruleB m.1.length r = true) : spec_l6Holds r x = some (holdsB r (pickF r.2.1 x)) := by
  obtain ⟨x1, x2⟩ := cellsB_c hx
  obtain ⟨r1, r2, r3⟩ := ruleB_at hr
  have hs1 := hs.1
  unfold spec_l6Holds
  refine loop_fn (f := spec_l6Holds_l5 r x) (fun s : Int × List Int => ∃ i : Nat, s.1 = i ∧ i ≤ r.2.1.length ∧ s.2 = pickF (r.2.1.take i) x) (fun s => r.2.1.length - s.1.toNat) (fun _ => holdsB r (pickF r.2.1 x)) ?_ _ ⟨0, rfl, Nat.zero_le _, rfl⟩
  rintro ⟨s, v⟩ ⟨i, rfl, hi, rfl⟩
  dsimp only
  unfold spec_l6Holds_l5
  dsimp only
  rcases Nat.lt_or_ge i r.2.1.length with h1 | h1
  · left
    have q1 := r1 i h1
    have hl : (pickF (r.2.1.take i) x).length = i := by unfold pickF; rw [List.length_map, List.length_take]; omega
    rw [cdec_pos (by omega), rq_pos ⟨by omega, by omega⟩, Int.toNat_natCast, rq_pos ⟨by omega, by omega⟩, rq_pos (by rw [hl, List.length_singleton]; simp only [bound]; omega), rq_i64 (by omega) (by omega)]
    refine ⟨_, rfl, ⟨i + 1, by simp, by omega, ?_⟩, by (try dsimp only) <;> omega, rfl⟩
    unfold pickF
    rw [take_snoc6 h1, List.map_append]
    rfl
  · right
    have : i = r.2.1.length := by omega
    subst this
    rw [cdec_neg (by omega), List.take_length, spec_holds_eq hs r3 (pickF_ok hm hs hx hr)]
    rfl

theorem modB_rules {m : ModT} (hm : modB m = true) : ∀ r ∈ m.2, ruleB m.1.length r = true := by
  unfold modB at hm
  simp only [Bool.and_eq_true, List.all_eq_true] at hm
  exact hm.2.2.2.2

theorem impl_solves_eq {m : ModT} {x : List Int} (h : smallM m) (hm : modB m = true) (hx : cellsB m x = true) : impl_Model_solves m x = some (solvesB m x) := by
  have h2 := h.2.1
  unfold impl_Model_solves slices_ContainsFunc_impl_Rule__impl_Model_solves_1 slices_IndexFunc_impl_Rule__impl_Model_solves_1 solvesB
  obtain ⟨q, hq1, hq2⟩ := loop_find (f := slices_IndexFunc_impl_Rule__impl_Model_solves_1_l1 m.2 x) m.2 (0, [], [], 0, []) (fun r => !holdsB r (pickF r.2.1 x)) (fun i hi => by
    have hr := getD_mem (l := m.2) (i := i) (d := (0, [], [], 0, [])) hi
    unfold slices_IndexFunc_impl_Rule__impl_Model_solves_1_l1 impl_Model_solves_1
    rw [cdec_pos (by omega), rq_pos ⟨by omega, by omega⟩, Int.toNat_natCast, impl_Rule_at_eq hm (h.2.2 _ hr) hx (modB_rules hm _ hr), bind_s, bind_s]
    cases holdsB (m.2.getD i (0, [], [], 0, [])) (pickF (m.2.getD i (0, [], [], 0, [])).2.1 x) with
    | true => rw [Bool.not_true, cff, cff, rq_i64 (by omega) (by omega)]
    | false => rw [Bool.not_false, ctt, ctt]) (by
    unfold slices_IndexFunc_impl_Rule__impl_Model_solves_1_l1
    rw [cdec_neg (by omega)])
  rw [hq1, bind_s, bind_s, hq2, List.any_eq_not_all_not]
  simp only [Bool.not_not]

theorem spec_solves_eq {m : ModT} {x : List Int} (h : smallM m) (hm : modB m = true) (hx : cellsB m x = true) : spec_l6Solves m x = some (solvesB m x) := by
  have h2 := h.2.1
  unfold spec_l6Solves solvesB
  rw [loop_all m.2.length (fun i => holdsB (m.2.getD i (0, [], [], 0, [])) (pickF (m.2.getD i (0, [], [], 0, [])).2.1 x)) false true]
  · rw [all_range m.2 (fun r => holdsB r (pickF r.2.1 x)) (0, [], [], 0, [])]
    cases m.2.all (fun r => holdsB r (pickF r.2.1 x)) <;> rfl
  · intro i hi _
    have hr := getD_mem (l := m.2) (i := i) (d := (0, [], [], 0, [])) hi
    unfold spec_l6Solves_l1
    rw [cdec_pos (by omega), rq_pos ⟨by omega, by omega⟩, Int.toNat_natCast, spec_l6Holds_eq hm (h.2.2 _ hr) hx (modB_rules hm _ hr), bind_s]
    cases holdsB (m.2.getD i (0, [], [], 0, [])) (pickF (m.2.getD i (0, [], [], 0, [])).2.1 x) with
    | true => rw [cnt, rq_i64 (by omega) (by omega), ctt]
    | false => rw [cnf, cff]
  · unfold spec_l6Solves_l1
    rw [cdec_neg (by omega)]

end Go.AE.Y
