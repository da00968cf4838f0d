/-
  Plain laws: cubes that part a problem.
-/
import Derived.Test.YtkipgkpekkjebaaP12C
namespace Go.AE.Y
open Go Go.AE

theorem set_getD {α : Type} (l : List α) (i : Nat) (d : α) : l.set i (l.getD i d) = l := by
  apply List.ext_getElem?
  intro j
  rw [List.getElem?_set]
  by_cases h : i = j
  · subst h
    by_cases h2 : i < l.length
    · simp [h2, List.getD_eq_getElem?_getD]
    · simp [h2]
  · simp [h]

theorem Clone_int_eq (a : List Int) (h : a.length ≤ 4000000000) : slices_Clone_int a = some a := by
  unfold slices_Clone_int
  refine nt_pos (fun hp => by rw [hp]) ?_
  rw [rq_pos (by simp [bound]; omega), List.nil_append]

/-- Each cube with the variable, and with its negation. -/
def stepB (v : Int) (out : List (List Int)) : List (List Int) := out.flatMap (fun c => [c ++ [v], c ++ [0 - v]])
def cubesB (vars : List Int) : List (List Int) := vars.foldl (fun out v => stepB v out) [[]]

theorem stepB_length (v : Int) (out : List (List Int)) : (stepB v out).length = 2 * out.length := by
  unfold stepB
  induction out with
  | nil => rfl
  | cons c r ih => rw [List.flatMap_cons, List.length_append, ih]; simp; omega

theorem stepB_append (v : Int) (a b : List (List Int)) : stepB v (a ++ b) = stepB v a ++ stepB v b := by simp [stepB]

theorem stepB_rows {v : Int} {out : List (List Int)} {n : Nat} (h : ∀ c ∈ out, c.length = n) : ∀ c ∈ stepB v out, c.length = n + 1 := by
  intro c hc
  obtain ⟨c0, h0, h1⟩ := List.mem_flatMap.1 hc
  have := h c0 h0
  simp only [List.mem_cons, List.not_mem_nil, or_false] at h1
  rcases h1 with rfl | rfl <;> simp [this]

theorem cubesB_snoc (l : List Int) (v : Int) : cubesB (l ++ [v]) = stepB v (cubesB l) := by simp [cubesB]

theorem cubesB_length : ∀ (n : Nat) (l : List Int), l.length = n → (cubesB l).length = 2 ^ n ∧ ∀ c ∈ cubesB l, c.length = n := by
  intro n
  induction n with
  | zero =>
    intro l hl
    obtain rfl := List.eq_nil_of_length_eq_zero hl
    exact ⟨rfl, fun c hc => by simp [cubesB] at hc; rw [hc]; rfl⟩
  | succ n ih =>
    intro l hl
    obtain ⟨l', v, rfl⟩ : ∃ l' v, l = l' ++ [v] := ⟨l.dropLast, l.getLast (by intro h; rw [h] at hl; simp at hl), (List.dropLast_concat_getLast _).symm⟩
    have hl' : l'.length = n := by simp at hl; exact hl
    obtain ⟨h1, h2⟩ := ih l' hl'
    rw [cubesB_snoc]
    exact ⟨by rw [stepB_length, h1, Nat.pow_succ]; omega, stepB_rows h2⟩

theorem take_snoc {α : Type} {l : List α} {i : Nat} (d : α) (h : i < l.length) : l.take (i + 1) = l.take i ++ [l.getD i d] := by
  rw [List.take_succ_eq_append_getElem h, List.getD_eq_getElem?_getD, List.getElem?_eq_getElem h]; rfl

/-- The bounds of what comes up on the way. -/
def okRows (out : List (List Int)) : Prop := out.length ≤ 16 ∧ ∀ c ∈ out, c.length ≤ 4

theorem cubesB_ok {l : List Int} (h : l.length ≤ 4) : okRows (cubesB l) := by
  obtain ⟨h1, h2⟩ := cubesB_length _ l rfl
  refine ⟨?_, fun c hc => by rw [h2 c hc]; exact h⟩
  rw [h1]
  exact Nat.le_trans (Nat.pow_le_pow_right (by omega) h) (by omega)

theorem spec_l12Cubes_in {vars : List Int} {i : Nat} {out : List (List Int)} (hv : vars.length ≤ 4) (hi : i < vars.length) (ho : okRows out) (hx : 1 ≤ vars.getD i 0 ∧ vars.getD i 0 ≤ 12) :
    loop (spec_l12Cubes_l2 vars i) (0, out, []) = some (.inl ((i : Int) + 1, stepB (vars.getD i 0) out)) := by
  obtain ⟨o1, o2⟩ := ho
  refine loop_fn (fun s : Int × List (List Int) × List (List Int) => ∃ j : Nat, s.1 = j ∧ j ≤ out.length ∧ s.2.1 = out ∧ s.2.2 = stepB (vars.getD i 0) (out.take j)) (fun s => out.length - s.1.toNat) (fun _ => Sum.inl ((i : Int) + 1, stepB (vars.getD i 0) out)) ?_ _ ⟨0, rfl, Nat.zero_le _, rfl, rfl⟩
  rintro ⟨k, out2, next⟩ ⟨j, rfl, hj, h2, hn⟩
  dsimp only at h2 hn ⊢
  subst h2
  have hnl : next.length = 2 * j := by rw [hn, stepB_length, List.length_take]; omega
  unfold spec_l12Cubes_l2
  rcases Nat.lt_or_ge j out2.length with h1 | h1
  · left
    have hc := o2 _ (getD_mem (d := []) h1)
    simp (disch := omega) only [cdec_pos, rq_pos, Int.toNat_natCast]
    unfold spec_l12Cubes_j1
    simp only [Int.toNat_natCast, set_getD, List.nil_append, List.length_append, List.length_cons, List.length_nil]
    simp (disch := first | omega | (simp only [bound]; omega)) only [rq_pos, rq_i64]
    refine ⟨_, rfl, ⟨j + 1, by simp, by omega, rfl, ?_⟩, by dsimp only; omega, by first | rfl | trivial⟩
    dsimp only
    rw [take_snoc [] h1, stepB_append, hn, List.append_assoc]
    rfl
  · right
    have : j = out2.length := by omega
    subst this
    rw [List.take_length] at hn
    rw [hn]
    simp (disch := omega) only [cdec_neg, rq_i64]

theorem spec_l12Cubes_eq {vars : List Int} (hv : vars.length ≤ 4) (hx : ∀ i, i < vars.length → 1 ≤ vars.getD i 0 ∧ vars.getD i 0 ≤ 12) : spec_l12Cubes vars = some (cubesB vars) := by
  unfold spec_l12Cubes
  refine loop_fn (fun s : Int × List (List Int) => ∃ i : Nat, s.1 = i ∧ i ≤ vars.length ∧ s.2 = cubesB (vars.take i)) (fun s => vars.length - s.1.toNat) (fun _ => cubesB vars) ?_ _ ⟨0, rfl, Nat.zero_le _, rfl⟩
  rintro ⟨s, out⟩ ⟨i, rfl, hi, ho⟩
  dsimp only at ho ⊢
  unfold spec_l12Cubes_l1
  rcases Nat.lt_or_ge i vars.length with h1 | h1
  · left
    have hok : okRows out := by rw [ho]; exact cubesB_ok (by rw [List.length_take]; omega)
    dsimp only
    rw [cdec_pos (by omega), spec_l12Cubes_in hv h1 hok (hx i h1)]
    refine ⟨_, rfl, ⟨i + 1, by simp, by omega, ?_⟩, by dsimp only; omega, by first | rfl | trivial⟩
    dsimp only
    rw [take_snoc 0 h1, cubesB_snoc, ho]
  · right
    have : i = vars.length := by omega
    subst this
    rw [List.take_length] at ho
    dsimp only
    rw [cdec_neg (by omega), ho]

theorem impl_cubesOf_in {vars : List Int} {i : Nat} {out : List (List Int)} (hv : vars.length ≤ 4) (hi : i < vars.length) (ho : okRows out) (hx : 1 ≤ vars.getD i 0 ∧ vars.getD i 0 ≤ 12) :
    loop (impl_cubesOf_l2 vars i out) (0, [], out) = some (.inl ((i : Int) + 1, stepB (vars.getD i 0) out)) := by
  obtain ⟨o1, o2⟩ := ho
  refine loop_fn (fun s : Int × List (List Int) × List (List Int) => ∃ j : Nat, s.1 = j ∧ j ≤ out.length ∧ s.2.2 = out ∧ s.2.1 = stepB (vars.getD i 0) (out.take j)) (fun s => out.length - s.1.toNat) (fun _ => Sum.inl ((i : Int) + 1, stepB (vars.getD i 0) out)) ?_ _ ⟨0, rfl, Nat.zero_le _, rfl, rfl⟩
  rintro ⟨k, next, out2⟩ ⟨j, rfl, hj, h2, hn⟩
  dsimp only at h2 hn ⊢
  subst h2
  have hnl : next.length = 2 * j := by rw [hn, stepB_length, List.length_take]; omega
  unfold impl_cubesOf_l2
  rcases Nat.lt_or_ge j out2.length with h1 | h1
  · left
    have hc := o2 _ (getD_mem (d := []) h1)
    simp (disch := omega) only [cdec_pos, rq_pos, Int.toNat_natCast]
    rw [Clone_int_eq _ (by omega)]
    simp only [bind_s, set_getD, List.length_append, List.length_cons, List.length_nil]
    simp (disch := first | omega | (simp only [bound]; omega)) only [rq_pos, rq_i64]
    refine ⟨_, rfl, ⟨j + 1, by simp, by omega, rfl, ?_⟩, by dsimp only; omega, by first | rfl | trivial⟩
    dsimp only
    rw [take_snoc [] h1, stepB_append, hn]
    rfl
  · right
    have : j = out2.length := by omega
    subst this
    rw [List.take_length] at hn
    rw [hn]
    simp (disch := omega) only [cdec_neg, rq_i64]

theorem impl_cubesOf_eq {vars : List Int} (hv : vars.length ≤ 4) (hx : ∀ i, i < vars.length → 1 ≤ vars.getD i 0 ∧ vars.getD i 0 ≤ 12) : impl_cubesOf vars = some (cubesB vars) := by
  unfold impl_cubesOf
  refine loop_fn (fun s : Int × List (List Int) => ∃ i : Nat, s.1 = i ∧ i ≤ vars.length ∧ s.2 = cubesB (vars.take i)) (fun s => vars.length - s.1.toNat) (fun _ => cubesB vars) ?_ _ ⟨0, rfl, Nat.zero_le _, rfl⟩
  rintro ⟨s, out⟩ ⟨i, rfl, hi, ho⟩
  dsimp only at ho ⊢
  unfold impl_cubesOf_l1
  rcases Nat.lt_or_ge i vars.length with h1 | h1
  · left
    have hok : okRows out := by rw [ho]; exact cubesB_ok (by rw [List.length_take]; omega)
    dsimp only
    rw [cdec_pos (by omega), rq_pos (by omega), impl_cubesOf_in hv h1 hok (hx i h1)]
    refine ⟨_, rfl, ⟨i + 1, by simp, by omega, ?_⟩, by dsimp only; omega, by first | rfl | trivial⟩
    dsimp only
    rw [take_snoc 0 h1, cubesB_snoc, ho]
  · right
    have : i = vars.length := by omega
    subst this
    rw [List.take_length] at ho
    dsimp only
    rw [cdec_neg (by omega), ho]

/-- Variables: ascending, one to twelve. -/
def varAt (c : List Int) (i : Nat) : Bool := (decide (1 ≤ c.getD i 0) && decide (c.getD i 0 ≤ 12)) && (i == 0 || decide (c.getD (i - 1) 0 < c.getD i 0))
def varsB (c : List Int) : Bool := (List.range c.length).all (varAt c) && decide (c.length ≤ 4)

theorem varsB_spec {c : List Int} (h : varsB c = true) : c.length ≤ 4 ∧ ∀ i, i < c.length → 1 ≤ c.getD i 0 ∧ c.getD i 0 ≤ 12 := by
  unfold varsB at h
  simp only [Bool.and_eq_true, decide_eq_true_eq, List.all_eq_true] at h
  refine ⟨h.2, fun i hi => ?_⟩
  have := h.1 i (List.mem_range.2 hi)
  unfold varAt at this
  simp only [Bool.and_eq_true, decide_eq_true_eq] at this
  exact this.1

theorem impl_areVars_eq (c : List Int) (h : c.length ≤ 4000000000) : impl_areVars c = some ((List.range c.length).all (varAt c)) := by
  unfold impl_areVars
  rw [loop_all c.length (varAt c) false true]
  · cases (List.range c.length).all (varAt c) <;> rfl
  · intro i hi hpre
    unfold impl_areVars_l1 varAt
    simp (disch := omega) only [cdec_pos, rq_pos, Int.toNat_natCast]
    rw [impl_within_eq, bind_s]
    cases hw : (decide (1 ≤ c.getD i 0) && decide (c.getD i 0 ≤ 12)) with
    | false => rw [cnf, Bool.false_and, cff]
    | true =>
      rw [cnt, Bool.true_and]
      by_cases h0 : i = 0
      · rw [cdec_neg (by omega), rq_i64 (by omega) (by omega), show (i == 0) = true by simpa using h0, Bool.true_or, ctt]
      · have e1 : ((i : Int) - 1).toNat = i - 1 := by omega
        rw [show (i == 0) = false by simpa using h0, Bool.false_or]
        simp (disch := omega) only [cdec_pos, rq_i64, rq_pos, e1]
        by_cases hv : c.getD (i - 1) 0 < c.getD i 0
        · rw [cdec_neg (by omega), decide_eq_true hv, ctt]
        · rw [cdec_pos (by omega), decide_eq_false hv, cff]
  · unfold impl_areVars_l1
    simp (disch := omega) only [cdec_neg]

def splitB (c : List Int) : Bool × List (List Int) := bif varsB c then (true, cubesB c) else (false, [])

theorem spec_SplitCubes_eq (c : List Int) (h : c.length ≤ 4000000000) : spec_SplitCubes c = some (splitB c) := by
  unfold spec_SplitCubes splitB
  have e : spec_l12Vars c = some (varsB c) := spec_l12Vars_eq c h
  rw [e, bind_s]
  cases hv : varsB c with
  | false => rw [cnf, cff]
  | true => rw [cnt, ctt, spec_l12Cubes_eq (varsB_spec hv).1 (varsB_spec hv).2, bind_s]

theorem impl_SplitCubes_eq (c : List Int) (h : c.length ≤ 4000000000) : impl_SplitCubes c = some (splitB c) := by
  unfold impl_SplitCubes splitB
  rw [impl_areVars_eq c h, bind_s]
  cases ha : (List.range c.length).all (varAt c) with
  | false => rw [cnf, show varsB c = false by unfold varsB; rw [ha, Bool.false_and], cff]
  | true =>
    rw [cnt]
    by_cases hl : c.length ≤ 4
    · have hv : varsB c = true := by unfold varsB; rw [ha, decide_eq_true hl]; rfl
      rw [cdec_neg (by omega), hv, ctt, impl_cubesOf_eq (varsB_spec hv).1 (varsB_spec hv).2, bind_s]
    · rw [cdec_pos (by omega), show varsB c = false by unfold varsB; rw [decide_eq_false hl, Bool.and_false], cff]

theorem splitB_ok (c : List Int) : okRows (splitB c).2 := by
  unfold splitB
  cases hv : varsB c with
  | false => exact ⟨by simp, fun x hx => by simp at hx⟩
  | true => exact cubesB_ok (varsB_spec hv).1

theorem eqIntSS_self (a : List (List Int)) (h : okRows a) : laws_eqIntSS a a = some true := by
  have h1 := h.1
  unfold laws_eqIntSS
  rw [cbne_neg rfl, loop_all a.length (fun _ => true) false true]
  · rw [List.all_eq_true.2 (fun _ _ => rfl)]; rfl
  · intro i hi _
    have h2 := h.2 _ (getD_mem (d := []) hi)
    unfold laws_eqIntSS_l1
    simp (disch := omega) only [cdec_pos, rq_pos, rq_i64, Int.toNat_natCast, eqIntS_self, bind_s, cnt, ctt]
  · unfold laws_eqIntSS_l1
    simp (disch := omega) only [cdec_neg]

theorem markIntS_v2_ex (a : List Int) (k : Int) (hk : 0 ≤ k ∧ k ≤ 9000000000000000000) (h : a.length ≤ 4000000000) :
    ∃ r, laws_markIntS_v2 k a = some r ∧ r.1 = k + a.length ∧ r.2.length = a.length ∧ ∀ j, j < a.length → r.2.getD j 0 = k + j := by
  unfold laws_markIntS_v2
  refine loop_ex (fun s : Int × Int × List Int => ∃ i : Nat, s.2.1 = i ∧ i ≤ a.length ∧ s.1 = k + i ∧ s.2.2.length = a.length ∧ ∀ j, j < i → s.2.2.getD j 0 = k + j) (fun s => a.length - s.2.1.toNat) (fun r : Int × List Int => r.1 = k + a.length ∧ r.2.length = a.length ∧ ∀ j, j < a.length → r.2.getD j 0 = k + j) ?_ _ ⟨0, rfl, Nat.zero_le _, by dsimp only; omega, rfl, fun j hj => by omega⟩
  rintro ⟨k1, s, a1⟩ ⟨i, rfl, hi, hk1, hl, hpre⟩
  dsimp only at hk1 hl hpre ⊢
  subst hk1
  unfold laws_markIntS_v2_l1
  rcases Nat.lt_or_ge i a.length with h1 | h1
  · left
    simp (disch := omega) only [cdec_pos, rq_pos, rq_i64, Int.toNat_natCast]
    refine ⟨_, rfl, ⟨i + 1, by simp, by omega, by simp only [Int.natCast_add]; omega, by simp [hl], fun j hj => ?_⟩, by dsimp only; omega⟩
    dsimp only
    rcases Nat.lt_or_ge j i with h4 | h4
    · rw [getD_set_ne' (by omega)]
      exact hpre j h4
    · have : j = i := by omega
      subst this
      rw [getD_set_eq' (by omega)]
  · right
    have : i = a.length := by omega
    subst this
    simp (disch := omega) only [cdec_neg]
    exact ⟨_, rfl, by dsimp only, hl, hpre⟩

theorem heldIntS_of (a : List Int) (k : Int) (hk : 0 ≤ k ∧ k ≤ 9000000000000000000) (h : a.length ≤ 4000000000) (hm : ∀ j, j < a.length → a.getD j 0 = k + j) : laws_heldIntS a k = some (k + a.length) := by
  unfold laws_heldIntS
  refine loop_fn (fun s : Int × Int => ∃ i : Nat, s.2 = i ∧ i ≤ a.length ∧ s.1 = k + i) (fun s => a.length - s.2.toNat) (fun _ => k + a.length) ?_ _ ⟨0, rfl, Nat.zero_le _, by dsimp only; omega⟩
  rintro ⟨k1, s⟩ ⟨i, rfl, hi, hk1⟩
  dsimp only at hk1 ⊢
  subst hk1
  unfold laws_heldIntS_l1
  rcases Nat.lt_or_ge i a.length with h1 | h1
  · left
    have hq := hm i h1
    simp (disch := omega) only [cdec_pos, rq_pos, rq_i64, Int.toNat_natCast, hq, bne_self_eq_false, cff]
    exact ⟨_, rfl, ⟨i + 1, by simp, by omega, by simp only [Int.natCast_add]; omega⟩, by dsimp only; omega, by first | rfl | trivial⟩
  · right
    have : i = a.length := by omega
    subst this
    simp (disch := omega) only [cdec_neg]

/-- The first i rows hold the marks from k to k'. -/
def heldToI (a : List (List Int)) (k : Int) (i : Nat) (k' : Int) : Prop :=
  ∃ ks : Nat → Int, ks 0 = k ∧ ks i = k' ∧ ∀ j, j < i → ks (j + 1) ≤ ks j + 4294967297 ∧ ks j ≤ ks (j + 1) ∧ laws_heldIntS (a.getD j []) (ks j) = some (ks (j + 1))

theorem heldToI_le {a : List (List Int)} {k k' : Int} {i : Nat} (h : heldToI a k i k') : k ≤ k' ∧ k' ≤ k + 4294967297 * i := by
  obtain ⟨ks, h0, hi, hj⟩ := h
  have : ∀ n, n ≤ i → k ≤ ks n ∧ ks n ≤ k + 4294967297 * n := by
    intro n
    induction n with
    | zero => intro _; rw [h0]; constructor <;> omega
    | succ n ih =>
      intro hn
      have := ih (by omega)
      obtain ⟨q1, q2, _⟩ := hj n (by omega)
      constructor <;> omega
  have := this i (Nat.le_refl _)
  rw [hi] at this
  exact this

theorem markHeldI (a : List (List Int)) (ha : a.length ≤ 1048576) (hx : ∀ x ∈ a, x.length ≤ 1048576) : ∃ r, laws_markIntSS 1 a = some r ∧ 0 ≤ r.1 ∧ r.1 ≤ 9000000000000000 ∧ laws_heldIntSS r.2 1 = some r.1 := by
  have key : ∃ r, laws_markIntSS 1 a = some r ∧ (r.2.length = a.length ∧ heldToI r.2 1 a.length r.1) := by
    unfold laws_markIntSS
    refine loop_ex (fun s : Int × Int × List (List Int) => ∃ i : Nat, s.2.1 = i ∧ i ≤ a.length ∧ s.2.2.length = a.length ∧ heldToI s.2.2 1 i s.1 ∧ ∀ j, i ≤ j → s.2.2.getD j [] = a.getD j []) (fun s => a.length - s.2.1.toNat)
      (fun r : Int × List (List Int) => r.2.length = a.length ∧ heldToI r.2 1 a.length r.1) ?_ _ ⟨0, rfl, Nat.zero_le _, rfl, ⟨fun _ => 1, rfl, rfl, fun j hj => by omega⟩, fun _ _ => rfl⟩
    rintro ⟨k1, s, a1⟩ ⟨i, rfl, hi, hl, hh, hpost⟩
    dsimp only at hl hh hpost ⊢
    have hb := heldToI_le hh
    unfold laws_markIntSS_l1
    rcases Nat.lt_or_ge i a.length with h1 | h1
    · left
      have hx1 := hx _ (getD_mem (d := []) h1)
      rw [← hpost i (Nat.le_refl _)] at hx1
      obtain ⟨r, hr1, hr2, hr3, hr4⟩ := markIntS_v2_ex (a1.getD i []) k1 ⟨by omega, by omega⟩ (by omega)
      simp (disch := omega) only [cdec_pos, rq_pos, Int.toNat_natCast]
      rw [hr1, bind_s]
      simp (disch := omega) only [rq_i64]
      refine ⟨_, rfl, ⟨i + 1, by simp, by omega, by simp [hl], ?_, fun j hj => ?_⟩, by dsimp only; omega⟩
      · dsimp only
        obtain ⟨ks, h0, hki, hj⟩ := hh
        refine ⟨fun j => if j ≤ i then ks j else r.1, by simp [h0], by dsimp only; rw [if_neg (by omega)], fun j hj' => ?_⟩
        rcases Nat.lt_or_ge j i with h4 | h4
        · rw [getD_set_ne' (by omega)]
          dsimp only
          rw [if_pos (show j ≤ i by omega), if_pos (show j + 1 ≤ i by omega)]
          exact hj j h4
        · have : j = i := by omega
          subst this
          rw [getD_set_eq' (by omega)]
          dsimp only
          rw [if_pos (Nat.le_refl _), if_neg (by omega), hki]
          refine ⟨by omega, by omega, ?_⟩
          rw [heldIntS_of r.2 k1 ⟨by omega, by omega⟩ (by omega) (fun j' hj' => hr4 j' (by omega)), hr2, hr3]
      · dsimp only
        rw [getD_set_ne' (by omega)]
        exact hpost j (by omega)
    · right
      have : i = a.length := by omega
      subst this
      simp (disch := omega) only [cdec_neg]
      exact ⟨_, rfl, hl, hh⟩
  obtain ⟨r, h1, h2, h3⟩ := key
  have hb := heldToI_le h3
  refine ⟨r, h1, by omega, by omega, ?_⟩
  rw [← h2] at h3
  have hle : ∀ i, i ≤ r.2.length → ∀ k'', heldToI r.2 1 i k'' → 1 ≤ k'' ∧ k'' ≤ 1 + 4294967297 * i := fun i _ k'' h => heldToI_le h
  obtain ⟨ks, h0, hn, hj⟩ := h3
  unfold laws_heldIntSS
  refine loop_fn (fun s : Int × Int => ∃ i : Nat, s.2 = i ∧ i ≤ r.2.length ∧ s.1 = ks i) (fun s => r.2.length - s.2.toNat) (fun _ => r.1) ?_ _ ⟨0, rfl, Nat.zero_le _, h0.symm⟩
  rintro ⟨k1, s⟩ ⟨i, rfl, hi, hk1⟩
  dsimp only at hk1 ⊢
  subst hk1
  unfold laws_heldIntSS_l1
  rcases Nat.lt_or_ge i r.2.length with h1 | h1
  · left
    obtain ⟨q1, q2, q4⟩ := hj i h1
    have hb := hle (i + 1) (by omega) (ks (i + 1)) ⟨ks, h0, rfl, fun j h => hj j (by omega)⟩
    simp (disch := omega) only [cdec_pos, rq_pos, Int.toNat_natCast]
    rw [q4, bind_s, cdec_neg (by omega)]
    simp (disch := omega) only [rq_i64]
    exact ⟨_, rfl, ⟨i + 1, by simp, by omega, rfl⟩, by dsimp only; omega, by first | rfl | trivial⟩
  · right
    have : i = r.2.length := by omega
    subst this
    simp (disch := omega) only [cdec_neg, hn]

theorem law_FnExactSplitCubes (c : List Int) : laws_FnExactSplitCubes c = some true := by
  unfold laws_FnExactSplitCubes
  by_cases h0 : 1048576 < (c.length : Int)
  · rw [cdec_pos h0]
  · rw [cdec_neg h0]
    have hok : okRows (splitB c).2 := splitB_ok c
    obtain ⟨m2, q4, q5, q5'⟩ := markIntS_ex c 1 ⟨by omega, by omega⟩ (by omega)
    obtain ⟨m3, q7, q8, q8', q9⟩ := markHeldI (splitB c).2 (by have := hok.1; omega) (fun x hx => by have := hok.2 x hx; omega)
    simp (disch := first | omega | assumption) only [toIntS_eq, bind_s, spec_SplitCubes_eq, impl_SplitCubes_eq, bne_self_eq_false, cff, eqIntSS_self, eqIntS_self, cnt, q4, q7, q9, cdec_neg]

end Go.AE.Y
