/-
  Plain laws: permutations of cells.
-/
import Derived.Test.YtpjbfmifmikloaaP6M
namespace Go.AE.Y
open Go Go.AE

theorem permB_at {m : ModT} {p : List Int} (h : permB m p = true) : modB m = true ∧ p.length = m.1.length ∧ ∀ i, i < p.length → 0 ≤ p.getD i 0 ∧ p.getD i 0 < m.1.length := by
  unfold permB at h
  simp only [Bool.and_eq_true, decide_eq_true_eq] at h
  exact ⟨h.1, h.2.1, fun i hi => freshB_in h.2.2.1 hi⟩

def moveF (p x : List Int) : Nat → List Int
  | 0 => List.replicate x.length 0
  | i + 1 => (moveF p x i).set (p.getD i 0).toNat (x.getD i 0)
def moveB (m : ModT) (p x : List Int) : Bool × List Int := bif permB m p && cellsB m x then (true, moveF p x x.length) else (false, [])

theorem moveF_len (p x : List Int) : ∀ n, (moveF p x n).length = x.length
  | 0 => List.length_replicate
  | n + 1 => by
    unfold moveF
    rw [List.length_set, moveF_len p x n]

theorem moveB_len (m : ModT) (p x : List Int) (hx : x.length ≤ 1048576) : (moveB m p x).2.length ≤ 1048576 := by
  unfold moveB
  cases permB m p && cellsB m x with
  | true => rw [ctt]; dsimp only; rw [moveF_len]; exact hx
  | false => rw [cff]; simp

theorem impl_PermuteCells_eq (m : ModT) (p x : List Int) (h : smallM m) (hp : p.length ≤ 1048576) (hx : x.length ≤ 1048576) : impl_PermuteCells m p x = some (moveB m p x) := by
  unfold impl_PermuteCells moveB
  rw [impl_PermValid_eq m p h hp, bind_s]
  cases h1 : permB m p with
  | false => rw [cnf, Bool.false_and, cff]
  | true =>
    obtain ⟨k1, k2, k3⟩ := permB_at h1
    rw [cnt, Bool.true_and, impl_CellsValid_eq m x h hx, bind_s, k1, Bool.true_and]
    cases h2 : cellsB m x with
    | false => rw [cnf, cff]
    | true =>
      obtain ⟨x1, x2⟩ := cellsB_at h2
      obtain ⟨m1, m2, m3⟩ := modB_len k1
      rw [cnt, ctt, rq_pos ⟨by omega, by simp only [bound]; omega, rfl⟩, Int.toNat_natCast]
      refine loop_fn (fun s : Int × List Int => ∃ i : Nat, s.1 = i ∧ i ≤ x.length ∧ s.2 = moveF p x i) (fun s => x.length - s.1.toNat) (fun _ => (true, moveF p x x.length)) ?_ _ ⟨0, rfl, Nat.zero_le _, rfl⟩
      rintro ⟨s, out⟩ ⟨i, rfl, hi, rfl⟩
      dsimp only
      unfold impl_PermuteCells_l1
      dsimp only
      rcases Nat.lt_or_ge i x.length with h3 | h3
      · left
        have hpi := k3 i (by omega)
        rw [cdec_pos (by omega), rq_pos ⟨by omega, by omega⟩, rq_pos ⟨by omega, by omega⟩, Int.toNat_natCast, rq_pos ⟨by omega, by rw [moveF_len]; omega⟩, rq_i64 (by omega) (by omega)]
        exact ⟨_, rfl, ⟨i + 1, by simp, by omega, rfl⟩, by (try dsimp only) <;> omega, rfl⟩
      · right
        have : i = x.length := by omega
        subst this
        rw [cdec_neg (by omega)]

theorem spec_PermuteCells_eq (m : ModT) (p x : List Int) (h : smallM m) (hp : p.length ≤ 1048576) (hx : x.length ≤ 1048576) : spec_PermuteCells m p x = some (moveB m p x) := by
  unfold spec_PermuteCells moveB
  rw [spec_PermValid_eq m p h hp, bind_s]
  cases h1 : permB m p with
  | false => rw [cnf, Bool.false_and, cff]
  | true =>
    obtain ⟨k1, k2, k3⟩ := permB_at h1
    rw [cnt, Bool.true_and, spec_l6Cells_eq m x h hx, bind_s]
    cases h2 : cellsB m x with
    | false => rw [cnf, cff]
    | true =>
      obtain ⟨x1, x2⟩ := cellsB_at h2
      obtain ⟨m1, m2, m3⟩ := modB_len k1
      have key : spec_l10Cells p x = some (moveF p x x.length) := by
        unfold spec_l10Cells
        rw [rq_pos ⟨by omega, by simp only [bound]; omega, rfl⟩, Int.toNat_natCast]
        refine loop_fn (fun s : Int × List Int => ∃ i : Nat, s.1 = i ∧ i ≤ x.length ∧ s.2 = moveF p x i) (fun s => x.length - s.1.toNat) (fun _ => moveF p x x.length) ?_ _ ⟨0, rfl, Nat.zero_le _, rfl⟩
        rintro ⟨s, out⟩ ⟨i, rfl, hi, rfl⟩
        dsimp only
        unfold spec_l10Cells_l1
        dsimp only
        rcases Nat.lt_or_ge i x.length with h3 | h3
        · left
          have hpi := k3 i (by omega)
          rw [cdec_pos (by omega), rq_pos ⟨by omega, by omega⟩, rq_pos ⟨by omega, by omega⟩, Int.toNat_natCast, rq_pos ⟨by omega, by rw [moveF_len]; omega⟩, rq_i64 (by omega) (by omega)]
          exact ⟨_, rfl, ⟨i + 1, by simp, by omega, rfl⟩, by (try dsimp only) <;> omega, rfl⟩
        · right
          have : i = x.length := by omega
          subst this
          rw [cdec_neg (by omega)]
      rw [cnt, ctt, key, bind_s]

theorem law_FnExactPermuteCells (m : ModT) (p x : List Int) (h : okD tyModel m) : laws_FnExactPermuteCells m p x = some true := by
  unfold laws_FnExactPermuteCells
  by_cases h0 : 1048576 < (p.length : Int)
  · rw [cdec_pos h0]
  rw [cdec_neg h0]
  by_cases h0' : 1048576 < (x.length : Int)
  · rw [cdec_pos h0']
  rw [cdec_neg h0']
  obtain ⟨r, hr, hl, hr2⟩ := szModel_le m h
  rw [hr, bind_s]
  by_cases h1 : r < 0
  · rw [cdec_pos h1]
  rw [cdec_neg h1]
  have hs : smallM m := hr2.resolve_left h1
  have hb := moveB_len m p x (by omega)
  obtain ⟨k1, e1, p1, p1', _⟩ := markModel_ex m hs
  obtain ⟨k2, e2, p2, _⟩ := markIntS_ex p k1.1 ⟨by omega, by omega⟩ (by omega)
  obtain ⟨k3, e3, p3, _⟩ := markIntS_ex x k2.1 ⟨by omega, by omega⟩ (by omega)
  obtain ⟨m2, q4, q5, q6⟩ := markHeldInt (moveB m p x).2 (by omega)
  unfold laws_FnExactPermuteCells_j1
  simp (disch := first | omega | assumption) only [toModel_eq, toIntS_eq, bind_s, spec_PermuteCells_eq, impl_PermuteCells_eq, bne_self_eq_false, cff, eqModel_self, eqIntS_self, cnt, e1, e2, e3, q4, q6, cdec_neg]

end Go.AE.Y
