/-
  Plain laws: cubes that part a problem.
-/
import Derived.Test.YtpjbfmifmikloaaP12C
namespace Go.AE.Y
open Go Go.AE

theorem set_getD {α : Type} (l : List α) (i : Nat) (d : α) : l.set i (l.getD i d) = l := by
  apply List.ext_getElem?
  intro j
  rw [List.getElem?_set]
  by_cases h : i = j
  · subst h
    by_cases h2 : i < l.length
    · simp [h2, List.getD_eq_getElem?_getD]
    · simp [h2]
  · simp [h]

theorem Clone_int_eq (a : List Int) (h : a.length ≤ 4000000000) : slices_Clone_int a = some a := by
  unfold slices_Clone_int
  refine nt_pos (fun hp => by rw [hp]) ?_
  rw [rq_pos (by simp [bound]; omega), List.nil_append]

/-- Each cube with the variable, and with its negation. -/
def stepB (v : Int) (out : List (List Int)) : List (List Int) := out.flatMap (fun c => [c ++ [v], c ++ [0 - v]])
def cubesB (vars : List Int) : List (List Int) := vars.foldl (fun out v => stepB v out) [[]]

theorem stepB_length (v : Int) (out : List (List Int)) : (stepB v out).length = 2 * out.length := by
  unfold stepB
  induction out with
  | nil => rfl
  | cons c r ih => rw [List.flatMap_cons, List.length_append, ih]; simp; omega

theorem stepB_append (v : Int) (a b : List (List Int)) : stepB v (a ++ b) = stepB v a ++ stepB v b := by simp [stepB]

theorem stepB_rows {v : Int} {out : List (List Int)} {n : Nat} (h : ∀ c ∈ out, c.length = n) : ∀ c ∈ stepB v out, c.length = n + 1 := by
  intro c hc
  obtain ⟨c0, h0, h1⟩ := List.mem_flatMap.1 hc
  have := h c0 h0
  simp only [List.mem_cons, List.not_mem_nil, or_false] at h1
  rcases h1 with rfl | rfl <;> simp [this]

theorem cubesB_snoc (l : List Int) (v : Int) : cubesB (l ++ [v]) = stepB v (cubesB l) := by simp [cubesB]

theorem cubesB_length : ∀ (n : Nat) (l : List Int), l.length = n → (cubesB l).length = 2 ^ n ∧ ∀ c ∈ cubesB l, c.length = n := by
  intro n
  induction n with
  | zero =>
    intro l hl
    obtain rfl := List.eq_nil_of_length_eq_zero hl
    exact ⟨rfl, fun c hc => by simp [cubesB] at hc; rw [hc]; rfl⟩
  | succ n ih =>
    intro l hl
    obtain ⟨l', v, rfl⟩ : ∃ l' v, l = l' ++ [v] := ⟨l.dropLast, l.getLast (by intro h; rw [h] at hl; simp at hl), (List.dropLast_concat_getLast _).symm⟩
    have hl' : l'.length = n := by simp at hl; exact hl
    obtain ⟨h1, h2⟩ := ih l' hl'
    rw [cubesB_snoc]
    exact ⟨by rw [stepB_length, h1, Nat.pow_succ]; omega, stepB_rows h2⟩

theorem take_snoc {α : Type} {l : List α} {i : Nat} (d : α) (h : i < l.length) : l.take (i + 1) = l.take i ++ [l.getD i d] := by
  rw [List.take_succ_eq_append_getElem h, List.getD_eq_getElem?_getD, List.getElem?_eq_getElem h]; rfl

/-- The bounds of what comes up on the way. -/
def okRows (out : List (List Int)) : Prop := out.length ≤ 16 ∧ ∀ c ∈ out, c.length ≤ 4

theorem cubesB_ok {l : List Int} (h : l.length ≤ 4) : okRows (cubesB l) := by
  obtain ⟨h1, h2⟩ := cubesB_length _ l rfl
  refine ⟨?_, fun c hc => by rw [h2 c hc]; exact h⟩
  rw [h1]
  exact Nat.le_trans (Nat.pow_le_pow_right (by omega) h) (by omega)

/-- Variables: ascending, one to twelve. -/
def varAt (c : List Int) (i : Nat) : Bool := (decide (1 ≤ c.getD i 0) && decide (c.getD i 0 ≤ 12)) && (i == 0 || decide (c.getD (i - 1) 0 < c.getD i 0))
def varsB (c : List Int) : Bool := (List.range c.length).all (varAt c) && decide (c.length ≤ 4)

theorem varsB_spec {c : List Int} (h : varsB c = true) : c.length ≤ 4 ∧ ∀ i, i < c.length → 1 ≤ c.getD i 0 ∧ c.getD i 0 ≤ 12 := by
  unfold varsB at h
  simp only [Bool.and_eq_true, decide_eq_true_eq, List.all_eq_true] at h
  refine ⟨h.2, fun i hi => ?_⟩
  have := h.1 i (List.mem_range.2 hi)
  unfold varAt at this
  simp only [Bool.and_eq_true, decide_eq_true_eq] at this
  exact this.1

def splitB (c : List Int) : Bool × List (List Int) := bif varsB c then (true, cubesB c) else (false, [])

theorem splitB_ok (c : List Int) : okRows (splitB c).2 := by
  unfold splitB
  cases hv : varsB c with
  | false => exact ⟨by simp, fun x hx => by simp at hx⟩
  | true => exact cubesB_ok (varsB_spec hv).1

theorem eqIntSS_self (a : List (List Int)) (h : okRows a) : laws_eqIntSS a a = some true := by
  have h1 := h.1
  unfold laws_eqIntSS
  rw [cbne_neg rfl, loop_all a.length (fun _ => true) false true]
  · rw [List.all_eq_true.2 (fun _ _ => rfl)]; rfl
  · intro i hi _
    have h2 := h.2 _ (getD_mem (d := []) hi)
    unfold laws_eqIntSS_l1
    simp (disch := omega) only [cdec_pos, rq_pos, rq_i64, Int.toNat_natCast, eqIntS_self, bind_s, cnt, ctt]
  · unfold laws_eqIntSS_l1
    simp (disch := omega) only [cdec_neg]

theorem markIntS_v2_ex (a : List Int) (k : Int) (hk : 0 ≤ k ∧ k ≤ 9000000000000000000) (h : a.length ≤ 4000000000) :
    ∃ r, laws_markIntS__d k a = some r ∧ r.1 = k + a.length ∧ r.2.length = a.length ∧ ∀ j, j < a.length → r.2.getD j 0 = k + j := by
  unfold laws_markIntS__d
  refine loop_ex (fun s : Int × Int × List Int => ∃ i : Nat, s.2.1 = i ∧ i ≤ a.length ∧ s.1 = k + i ∧ s.2.2.length = a.length ∧ ∀ j, j < i → s.2.2.getD j 0 = k + j) (fun s => a.length - s.2.1.toNat) (fun r : Int × List Int => r.1 = k + a.length ∧ r.2.length = a.length ∧ ∀ j, j < a.length → r.2.getD j 0 = k + j) ?_ _ ⟨0, rfl, Nat.zero_le _, by dsimp only; omega, rfl, fun j hj => by omega⟩
  rintro ⟨k1, s, a1⟩ ⟨i, rfl, hi, hk1, hl, hpre⟩
  dsimp only at hk1 hl hpre ⊢
  subst hk1
  unfold laws_markIntS__d_l1
  rcases Nat.lt_or_ge i a.length with h1 | h1
  · left
    simp (disch := omega) only [cdec_pos, rq_pos, rq_i64, Int.toNat_natCast]
    refine ⟨_, rfl, ⟨i + 1, by simp, by omega, by simp only [Int.natCast_add]; omega, by simp [hl], fun j hj => ?_⟩, by dsimp only; omega⟩
    dsimp only
    rcases Nat.lt_or_ge j i with h4 | h4
    · rw [getD_set_ne' (by omega)]
      exact hpre j h4
    · have : j = i := by omega
      subst this
      rw [getD_set_eq' (by omega)]
  · right
    have : i = a.length := by omega
    subst this
    simp (disch := omega) only [cdec_neg]
    exact ⟨_, rfl, by dsimp only, hl, hpre⟩

theorem heldIntS_of (a : List Int) (k : Int) (hk : 0 ≤ k ∧ k ≤ 9000000000000000000) (h : a.length ≤ 4000000000) (hm : ∀ j, j < a.length → a.getD j 0 = k + j) : laws_heldIntS a k = some (k + a.length) := by
  unfold laws_heldIntS
  refine loop_fn (fun s : Int × Int => ∃ i : Nat, s.2 = i ∧ i ≤ a.length ∧ s.1 = k + i) (fun s => a.length - s.2.toNat) (fun _ => k + a.length) ?_ _ ⟨0, rfl, Nat.zero_le _, by dsimp only; omega⟩
  rintro ⟨k1, s⟩ ⟨i, rfl, hi, hk1⟩
  dsimp only at hk1 ⊢
  subst hk1
  unfold laws_heldIntS_l1
  rcases Nat.lt_or_ge i a.length with h1 | h1
  · left
    have hq := hm i h1
    simp (disch := omega) only [cdec_pos, rq_pos, rq_i64, Int.toNat_natCast, hq, bne_self_eq_false, cff]
    exact ⟨_, rfl, ⟨i + 1, by simp, by omega, by simp only [Int.natCast_add]; omega⟩, by dsimp only; omega, by first | rfl | trivial⟩
  · right
    have : i = a.length := by omega
    subst this
    simp (disch := omega) only [cdec_neg]

/-- The first i rows hold the marks from k to k'. -/
def heldToI (a : List (List Int)) (k : Int) (i : Nat) (k' : Int) : Prop :=
  ∃ ks : Nat → Int, ks 0 = k ∧ ks i = k' ∧ ∀ j, j < i → ks (j + 1) ≤ ks j + 4294967297 ∧ ks j ≤ ks (j + 1) ∧ laws_heldIntS (a.getD j []) (ks j) = some (ks (j + 1))

theorem heldToI_le {a : List (List Int)} {k k' : Int} {i : Nat} (h : heldToI a k i k') : k ≤ k' ∧ k' ≤ k + 4294967297 * i := by
  obtain ⟨ks, h0, hi, hj⟩ := h
  have : ∀ n, n ≤ i → k ≤ ks n ∧ ks n ≤ k + 4294967297 * n := by
    intro n
    induction n with
    | zero => intro _; rw [h0]; constructor <;> omega
    | succ n ih =>
      intro hn
      have := ih (by omega)
      obtain ⟨q1, q2, _⟩ := hj n (by omega)
      constructor <;> omega
  have := this i (Nat.le_refl _)
  rw [hi] at this
  exact this

end Go.AE.Y
