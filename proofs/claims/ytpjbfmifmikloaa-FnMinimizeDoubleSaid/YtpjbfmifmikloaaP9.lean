/-
  Plain laws: cells and objectives of models.
-/
import Derived.Test.YtpjbfmifmikloaaP6X
namespace Go.AE.Y
open Go Go.AE

def wtB (n : Int) : Bool := decide (-9 ≤ n) && decide (n ≤ 9)
def objB (m : ModT) (c : List Int) : Bool := decide (c.length = m.1.length) && c.all wtB
def cellAt (m : ModT) (x : List Int) (i : Nat) : Bool := decide (0 ≤ x.getD i 0) && decide (x.getD i 0 ≤ m.1.getD i 0)
def cellsB (m : ModT) (x : List Int) : Bool := decide (x.length = m.1.length) && (List.range x.length).all (cellAt m x)
def valZ (c x : List Int) (n : Nat) : Int := (List.range n).foldl (fun a i => a + c.getD i 0 * x.getD i 0) 0

theorem valZ_succ (c x : List Int) (n : Nat) : valZ c x (n + 1) = valZ c x n + c.getD n 0 * x.getD n 0 := by
  unfold valZ
  rw [List.range_succ, List.foldl_append]
  rfl

theorem impl_isObjective_eq (m : ModT) (c : List Int) (hc : c.length ≤ 1048576) : impl_isObjective m c = some (objB m c) := by
  unfold impl_isObjective objB
  by_cases hl : c.length = m.1.length
  · rw [cbeq_pos (by omega), decide_eq_true hl, Bool.true_and]
    unfold slices_ContainsFunc_int__impl_isObjective_1 slices_IndexFunc_int__impl_isObjective_1
    obtain ⟨r, hr1, hr2⟩ := loop_find (f := slices_IndexFunc_int__impl_isObjective_1_l1 c) c 0 (fun x => !wtB x) (fun i hi => by
      unfold slices_IndexFunc_int__impl_isObjective_1_l1 impl_isObjective_1
      rw [cdec_pos (by omega), rq_pos ⟨by omega, by omega⟩, Int.toNat_natCast, impl_within_eq, bind_s, bind_s]
      unfold wtB
      cases (decide (-9 ≤ c.getD i 0) && decide (c.getD i 0 ≤ 9)) with
      | true => rw [cnt, rq_i64 (by omega) (by omega), cnt]
      | false => rw [cnf, cnf]) (by
      unfold slices_IndexFunc_int__impl_isObjective_1_l1
      rw [cdec_neg (by omega)])
    rw [hr1, bind_s, bind_s, hr2, List.any_eq_not_all_not]
    simp only [Bool.not_not]
  · rw [cbeq_neg (by omega), decide_eq_false hl, Bool.false_and]

theorem spec_l9Coefs_eq (m : ModT) (c : List Int) (h : smallM m) (hc : c.length ≤ 1048576) : spec_l9Coefs m c = some (modB m && objB m c) := by
  unfold spec_l9Coefs objB
  rw [spec_ModelValid_eq m h, bind_s]
  cases hm : modB m with
  | false => rw [cnf, Bool.false_and]
  | true =>
    rw [cnt, Bool.true_and]
    by_cases hl : c.length = m.1.length
    · rw [cbne_neg (by omega), decide_eq_true hl, Bool.true_and, ← all_range c wtB 0, loop_all c.length (fun i => wtB (c.getD i 0)) false true]
      · cases (List.range c.length).all (fun i => wtB (c.getD i 0)) <;> rfl
      · intro i hi _
        unfold spec_l9Coefs_l1 wtB
        rw [cdec_pos (by omega), rq_pos ⟨by omega, by omega⟩, Int.toNat_natCast]
        by_cases q1 : c.getD i 0 < -9
        · rw [cdec_pos q1, decide_eq_false (show ¬ -9 ≤ c.getD i 0 by omega), Bool.false_and, cff]
        · rw [cdec_neg q1, rq_pos ⟨by omega, by omega⟩, decide_eq_true (show -9 ≤ c.getD i 0 by omega), Bool.true_and]
          by_cases q2 : 9 < c.getD i 0
          · rw [cdec_pos q2, decide_eq_false (show ¬ c.getD i 0 ≤ 9 by omega), cff]
          · rw [cdec_neg q2, decide_eq_true (show c.getD i 0 ≤ 9 by omega), rq_i64 (by omega) (by omega), ctt]
      · unfold spec_l9Coefs_l1
        rw [cdec_neg (by omega)]
    · rw [cbne_pos (by omega), decide_eq_false hl, Bool.false_and]

theorem mul_bound {c x : Int} (hc : -9 ≤ c ∧ c ≤ 9) (hx : 0 ≤ x ∧ x ≤ 3) : -27 ≤ c * x ∧ c * x ≤ 27 := by
  have : x = 0 ∨ x = 1 ∨ x = 2 ∨ x = 3 := by omega
  rcases this with rfl | rfl | rfl | rfl <;> omega

/-- What is known of valid cells and coefficients. -/
theorem term_bound {m : ModT} {c x : List Int} (hm : modB m = true) (hc : objB m c = true) (hx : cellsB m x = true) :
    x.length = m.1.length ∧ c.length = m.1.length ∧ m.1.length ≤ 5 ∧ ∀ i, i < x.length → -27 ≤ c.getD i 0 * x.getD i 0 ∧ c.getD i 0 * x.getD i 0 ≤ 27 := by
  obtain ⟨m1, m2, m3⟩ := modB_len hm
  unfold objB at hc
  unfold cellsB at hx
  unfold modB at hm
  simp only [Bool.and_eq_true, decide_eq_true_eq, List.all_eq_true] at hc hx hm
  refine ⟨hx.1, hc.1, m2, fun i hi => mul_bound ?_ ?_⟩
  · have := hc.2 _ (getD_mem (l := c) (i := i) (d := 0) (by omega))
    unfold wtB at this
    simpa using this
  · have h1 := hx.2 i (List.mem_range.2 hi)
    have h2 := hm.2.2.1 _ (getD_mem (l := m.1) (i := i) (d := 0) (by omega))
    unfold cellAt at h1
    unfold cellB at h2
    simp only [Bool.and_eq_true, decide_eq_true_eq] at h1 h2
    omega

theorem valZ_bound {c x : List Int} {n : Nat} (hn : n ≤ 5) (h : ∀ i, i < n → -27 ≤ c.getD i 0 * x.getD i 0 ∧ c.getD i 0 * x.getD i 0 ≤ 27) : -27 * (n : Int) ≤ valZ c x n ∧ valZ c x n ≤ 27 * n := by
  induction n with
  | zero => simp [valZ]
  | succ n ih =>
    have := ih (by omega) (fun i hi => h i (by omega))
    have := h n (by omega)
    rw [valZ_succ]
    omega

theorem impl_valueOf_eq {c x : List Int} (hl : c.length = x.length) (hn : x.length ≤ 5) (h : ∀ i, i < x.length → -27 ≤ c.getD i 0 * x.getD i 0 ∧ c.getD i 0 * x.getD i 0 ≤ 27) : impl_valueOf c x = some (valZ c x x.length) := by
  unfold impl_valueOf
  refine loop_fn (fun s : Int × Int => ∃ i : Nat, s.2 = i ∧ i ≤ x.length ∧ s.1 = valZ c x i) (fun s => x.length - s.2.toNat) (fun _ => valZ c x x.length) ?_ _ ⟨0, rfl, Nat.zero_le _, rfl⟩
  rintro ⟨a, s⟩ ⟨i, rfl, hi, ha⟩
  dsimp only at ha ⊢
  subst ha
  unfold impl_valueOf_l1
  dsimp only
  rcases Nat.lt_or_ge i x.length with h1 | h1
  · left
    have hb := valZ_bound (c := c) (x := x) (n := i) (by omega) (fun j hj => h j (by omega))
    have hi2 := h i h1
    rw [cdec_pos (by omega), rq_pos ⟨by omega, by omega⟩, rq_pos ⟨by omega, by omega⟩, Int.toNat_natCast, rq_i64 (by omega) (by omega), rq_i64 (by omega) (by omega), rq_i64 (by omega) (by omega)]
    exact ⟨_, rfl, ⟨i + 1, by simp, by omega, by rw [valZ_succ]⟩, by dsimp only; omega, rfl⟩
  · right
    have : i = x.length := by omega
    subst this
    rw [cdec_neg (by omega)]

theorem spec_l9Value_eq {c x : List Int} (hl : c.length = x.length) (hn : x.length ≤ 5) (h : ∀ i, i < x.length → -27 ≤ c.getD i 0 * x.getD i 0 ∧ c.getD i 0 * x.getD i 0 ≤ 27) : spec_l9Value c x = some (valZ c x x.length) := by
  unfold spec_l9Value
  refine loop_fn (fun s : Int × Int => ∃ i : Nat, s.2 = i ∧ i ≤ x.length ∧ s.1 = valZ c x i) (fun s => x.length - s.2.toNat) (fun _ => valZ c x x.length) ?_ _ ⟨0, rfl, Nat.zero_le _, rfl⟩
  rintro ⟨a, s⟩ ⟨i, rfl, hi, ha⟩
  dsimp only at ha ⊢
  subst ha
  unfold spec_l9Value_l1
  dsimp only
  rcases Nat.lt_or_ge i x.length with h1 | h1
  · left
    have hb := valZ_bound (c := c) (x := x) (n := i) (by omega) (fun j hj => h j (by omega))
    have hi2 := h i h1
    rw [cdec_pos (by omega), rq_pos ⟨by omega, by omega⟩, rq_pos ⟨by omega, by omega⟩, Int.toNat_natCast, rq_i64 (by omega) (by omega), rq_i64 (by omega) (by omega), rq_i64 (by omega) (by omega)]
    exact ⟨_, rfl, ⟨i + 1, by simp, by omega, by rw [valZ_succ]⟩, by dsimp only; omega, rfl⟩
  · right
    have : i = x.length := by omega
    subst this
    rw [cdec_neg (by omega)]

def objV (m : ModT) (c x : List Int) : Int × Bool := bif modB m && (objB m c && cellsB m x) then (valZ c x x.length, true) else (0, false)

end Go.AE.Y
