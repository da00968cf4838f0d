/-
  Plain laws: FlipBest against its reference, for all arguments.
-/
import Derived.Test.YtmpjmcflooeigaaP11F
namespace Go.AE.Y
open Go Go.AE

theorem markBoolS_full (a : List Bool) (k : Int) (hk : 0 ≤ k ∧ k ≤ 9000000000000000000) (h : a.length ≤ 4000000000) :
    ∃ r, laws_markBoolS k a = some r ∧ r.1 = k + a.length ∧ r.2.length = a.length ∧ ∀ j : Nat, j < a.length → r.2.getD j false = ((k + j) % 3 == 0) := by
  unfold laws_markBoolS
  refine loop_ex (fun s : Int × Int × List Bool => ∃ i : Nat, s.2.1 = i ∧ i ≤ a.length ∧ s.1 = k + i ∧ s.2.2.length = a.length ∧ ∀ j : Nat, j < i → s.2.2.getD j false = ((k + j) % 3 == 0)) (fun s => a.length - s.2.1.toNat) (fun r : Int × List Bool => r.1 = k + a.length ∧ r.2.length = a.length ∧ ∀ j : Nat, j < a.length → r.2.getD j false = ((k + j) % 3 == 0)) ?_ _ ⟨0, rfl, Nat.zero_le _, by dsimp only; omega, rfl, fun j hj => by omega⟩
  rintro ⟨k1, s, a1⟩ ⟨i, rfl, hi, hk1, hl, hpre⟩
  dsimp only at hk1 hl hpre ⊢
  subst hk1
  unfold laws_markBoolS_l1
  rcases Nat.lt_or_ge i a.length with h1 | h1
  · left
    dsimp only
    rw [cdec_pos (by omega), rq_pos ⟨by omega, by omega⟩, rq_pos ⟨by omega, by omega⟩, rq_i64 (by omega) (by omega), rq_i64 (by omega) (by omega), Int.toNat_natCast]
    refine ⟨_, rfl, ⟨i + 1, by simp, by omega, by simp only [Int.natCast_add]; omega, by simp [hl], fun j hj => ?_⟩, by dsimp only; omega⟩
    dsimp only
    rcases Nat.lt_or_ge j i with h4 | h4
    · rw [getD_set_ne' (by omega)]
      exact hpre j h4
    · have : j = i := by omega
      subst this
      rw [getD_set_eq' (by omega)]
  · right
    have : i = a.length := by omega
    subst this
    dsimp only
    rw [cdec_neg (by omega)]
    exact ⟨_, rfl, by dsimp only, hl, hpre⟩

theorem heldBoolS_of (a : List Bool) (k : Int) (hk : 0 ≤ k ∧ k ≤ 9000000000000000000) (h : a.length ≤ 4000000000) (hm : ∀ j : Nat, j < a.length → a.getD j false = ((k + j) % 3 == 0)) : laws_heldBoolS a k = some (k + a.length) := by
  unfold laws_heldBoolS
  refine loop_fn (fun s : Int × Int => ∃ i : Nat, s.2 = i ∧ i ≤ a.length ∧ s.1 = k + i) (fun s => a.length - s.2.toNat) (fun _ => k + a.length) ?_ _ ⟨0, rfl, Nat.zero_le _, by dsimp only; omega⟩
  rintro ⟨k1, s⟩ ⟨i, rfl, hi, hk1⟩
  dsimp only at hk1 ⊢
  subst hk1
  unfold laws_heldBoolS_l1
  rcases Nat.lt_or_ge i a.length with h1 | h1
  · left
    dsimp only
    rw [cdec_pos (by omega), rq_pos ⟨by omega, by omega⟩, rq_pos ⟨by omega, by omega⟩, Int.toNat_natCast, hm i h1, bne_self_eq_false, cff, rq_i64 (by omega) (by omega), rq_i64 (by omega) (by omega)]
    exact ⟨_, rfl, ⟨i + 1, by simp, by omega, by simp only [Int.natCast_add]; omega⟩, by dsimp only; omega, rfl⟩
  · right
    have : i = a.length := by omega
    subst this
    dsimp only
    rw [cdec_neg (by omega)]

theorem markHeldBool (a : List Bool) (h : a.length ≤ 4000000) : ∃ r, laws_markBoolS 1 a = some r ∧ 0 ≤ r.1 ∧ laws_heldBoolS r.2 1 = some r.1 := by
  obtain ⟨r, h1, h2, h3, h4⟩ := markBoolS_full a 1 ⟨by omega, by omega⟩ (by omega)
  refine ⟨r, h1, by omega, ?_⟩
  rw [heldBoolS_of r.2 1 ⟨by omega, by omega⟩ (by omega) (fun j hj => h4 j (by omega)), h2, h3]

theorem flipB_len {l : List (List (Int × Int) × Int)} {v : List Bool} : (flipB l v).2.2.length ≤ 12 := by
  unfold flipB
  cases hq : probB l && decide (v.length = 12) with
  | false => rw [cff]; simp
  | true =>
    rw [ctt]
    simp only [Bool.and_eq_true, decide_eq_true_eq] at hq
    obtain ⟨k, _, k2, _⟩ := flipF_spec (l := l) hq.2 12 (by omega)
    rw [k2]
    dsimp only
    rw [flipAt_len, hq.2]
    omega

theorem law_FnExactFlipBest (a : List (List (Int × Int) × Int)) (v : List Bool) (h : okD (.sl (.pair (.sl (.pair (.int .i64) (.int .i64))) (.int .i64))) a) : laws_FnExactFlipBest a v = some true := by
  unfold laws_FnExactFlipBest
  by_cases h0 : 1048576 < (v.length : Int)
  · rw [cdec_pos h0]
  rw [cdec_neg h0]
  obtain ⟨r, hr, hr2⟩ := szConstraintS_ex a h
  rw [hr, bind_s]
  by_cases h1 : r < 0
  · rw [cdec_pos h1]
  rw [cdec_neg h1]
  have hs : smallC a := hr2.resolve_left h1
  have hl := flipB_len (l := a) (v := v)
  obtain ⟨m1, q1, q2, q2'⟩ := markConOk a hs
  obtain ⟨m2, q3, q3', _⟩ := markBoolS_full v m1.1 ⟨by omega, by omega⟩ (by omega)
  obtain ⟨m3, q4, q5, q6⟩ := markHeldBool (flipB a v).2.2 (by omega)
  simp (disch := first | omega | assumption) only [toConstraintS_eq, toBoolS_eq, bind_s, spec_FlipBest_eq, impl_FlipBest_eq, bne_self_eq_false, cff, eqConstraintS_self, eqBoolS_self, cnt, q1, q3, q4, q6, cdec_neg]

end Go.AE.Y
