/-
  Plain laws: lower bounds of objectives over domains.
-/
import Derived.Test.YtpjbfmifmikloaaP8
namespace Go.AE.Y
open Go Go.AE

/-- The least value of a coefficient over the first k values of a row. -/
def lowS (c : Int) (row : List Bool) : Nat → Int × Bool
  | 0 => (0, false)
  | k + 1 => bif row.getD k false && (!(lowS c row k).2 || decide (c * k < (lowS c row k).1)) then (c * k, true) else lowS c row k
def lowT (c : List Int) (d : List (List Bool)) : Nat → Int
  | 0 => 0
  | n + 1 => lowT c d n + (lowS (c.getD n 0) (d.getD n []) (d.getD n []).length).1
def lowV (m : ModT) (c : List Int) (d : List (List Bool)) : Int × Bool := bif domB m d && (objB m c && !emptyB d) then (lowT c d d.length, true) else (0, false)

theorem lowS_bound {c : Int} {row : List Bool} (hc : -9 ≤ c ∧ c ≤ 9) : ∀ {n : Nat}, n ≤ 4 → -27 ≤ (lowS c row n).1 ∧ (lowS c row n).1 ≤ 27
  | 0, _ => ⟨by show (-27 : Int) ≤ 0; decide, by show (0 : Int) ≤ 27; decide⟩
  | k + 1, h => by
    have ih := lowS_bound (row := row) hc (n := k) (by omega)
    have := mul_bound (c := c) (x := (k : Int)) hc ⟨by omega, by omega⟩
    unfold lowS
    cases row.getD k false && (!(lowS c row k).2 || decide (c * k < (lowS c row k).1)) with
    | true => exact this
    | false => exact ih

theorem lowT_bound {c : List Int} {d : List (List Bool)} (hc : ∀ i, -9 ≤ c.getD i 0 ∧ c.getD i 0 ≤ 9) (hd : ∀ i, (d.getD i []).length ≤ 4) : ∀ n : Nat, -27 * (n : Int) ≤ lowT c d n ∧ lowT c d n ≤ 27 * (n : Int)
  | 0 => ⟨by show -27 * ((0 : Nat) : Int) ≤ 0; decide, by show (0 : Int) ≤ 27 * ((0 : Nat) : Int); decide⟩
  | n + 1 => by
    have ih := lowT_bound hc hd n
    have := lowS_bound (row := d.getD n []) (hc n) (hd n)
    unfold lowT
    omega

theorem objB_all {m : ModT} {c : List Int} (h : objB m c = true) : c.length = m.1.length ∧ ∀ i, -9 ≤ c.getD i 0 ∧ c.getD i 0 ≤ 9 := by
  unfold objB wtB at h
  simp only [Bool.and_eq_true, decide_eq_true_eq, List.all_eq_true] at h
  refine ⟨h.1, fun i => ?_⟩
  rcases Nat.lt_or_ge i c.length with h1 | h1
  · exact h.2 _ (getD_mem h1)
  · rw [List.getD_eq_getElem?_getD, List.getElem?_eq_none h1]
    decide

theorem domB_len {m : ModT} {d : List (List Bool)} (h : domB m d = true) : d.length = m.1.length ∧ m.1.length ≤ 5 ∧ ∀ i, (d.getD i []).length ≤ 4 := by
  obtain ⟨d1, d2, d3⟩ := domB_row h
  obtain ⟨m1, m2, m3⟩ := modB_len d1
  refine ⟨d2, m2, fun i => ?_⟩
  rcases Nat.lt_or_ge i d.length with h1 | h1
  · have := d3 i h1
    have := modB_size d1 (i := i) (by omega)
    omega
  · rw [List.getD_eq_getElem?_getD, List.getElem?_eq_none h1]
    decide

theorem impl_low_in {c : List Int} {d : List (List Bool)} {s : Int} {i : Nat} (hc : ∀ i, -9 ≤ c.getD i 0 ∧ c.getD i 0 ≤ 9) (hd : (d.getD i []).length ≤ 4) (hi : i < c.length) (hl : c.length ≤ 5) (hs : -1000 ≤ s ∧ s ≤ 1000) :
    loop (impl_LowerBound_l2 c d s i) ((0 : Int), false, (0 : Int)) = some (.inl (s + (lowS (c.getD i 0) (d.getD i []) (d.getD i []).length).1, (i : Int) + 1)) := by
  refine loop_fn (f := impl_LowerBound_l2 c d s i) (fun t : Int × Bool × Int => ∃ k : Nat, t.2.2 = k ∧ k ≤ (d.getD i []).length ∧ (t.1, t.2.1) = lowS (c.getD i 0) (d.getD i []) k) (fun t => (d.getD i []).length - t.2.2.toNat)
    (fun _ => .inl (s + (lowS (c.getD i 0) (d.getD i []) (d.getD i []).length).1, (i : Int) + 1)) ?_ _ ⟨0, rfl, Nat.zero_le _, rfl⟩
  rintro ⟨b, f, t⟩ ⟨k, rfl, hk, hb⟩
  dsimp only at hb ⊢
  unfold impl_LowerBound_l2
  dsimp only
  rw [Int.toNat_natCast]
  rcases Nat.lt_or_ge k (d.getD i []).length with h1 | h1
  · left
    have hm := mul_bound (c := c.getD i 0) (x := (k : Int)) (hc i) ⟨by omega, by omega⟩
    have hn : lowS (c.getD i 0) (d.getD i []) (k + 1) = bif (d.getD i []).getD k false && (!(lowS (c.getD i 0) (d.getD i []) k).2 || decide (c.getD i 0 * k < (lowS (c.getD i 0) (d.getD i []) k).1)) then (c.getD i 0 * k, true) else lowS (c.getD i 0) (d.getD i []) k := rfl
    rw [← hb] at hn
    dsimp only at hn
    rw [cdec_pos (by omega), rq_pos ⟨by omega, by omega⟩, rq_pos ⟨by omega, by omega⟩, rq_i64 (by omega) (by omega), Int.toNat_natCast]
    cases hr : (d.getD i []).getD k false with
    | false =>
      rw [hr, Bool.false_and, cff] at hn
      rw [cff, rq_i64 (by omega) (by omega)]
      exact ⟨_, rfl, ⟨k + 1, by simp, by omega, hn.symm⟩, by (try dsimp only) <;> omega, rfl⟩
    | true =>
      rw [hr, Bool.true_and] at hn
      rw [ctt]
      cases f with
      | false =>
        rw [Bool.not_false, Bool.true_or, ctt] at hn
        rw [cnf, rq_i64 (by omega) (by omega)]
        exact ⟨_, rfl, ⟨k + 1, by simp, by omega, hn.symm⟩, by (try dsimp only) <;> omega, rfl⟩
      | true =>
        rw [Bool.not_true, Bool.false_or] at hn
        rw [cnt]
        cases hq : decide (c.getD i 0 * k < b) with
        | true =>
          rw [hq, ctt] at hn
          rw [ctt, rq_i64 (by omega) (by omega)]
          exact ⟨_, rfl, ⟨k + 1, by simp, by omega, hn.symm⟩, by (try dsimp only) <;> omega, rfl⟩
        | false =>
          rw [hq, cff] at hn
          rw [cff, rq_i64 (by omega) (by omega)]
          exact ⟨_, rfl, ⟨k + 1, by simp, by omega, hn.symm⟩, by (try dsimp only) <;> omega, rfl⟩
  · right
    have : k = (d.getD i []).length := by omega
    rw [this] at hb
    have hB := lowS_bound (row := d.getD i []) (hc i) hd
    rw [← hb] at hB ⊢
    dsimp only at hB ⊢
    rw [cdec_neg (by omega), rq_i64 (by omega) (by omega), rq_i64 (by omega) (by omega)]

theorem spec_l8Best_eq {c : Int} {row : List Bool} (hc : -9 ≤ c ∧ c ≤ 9) (hd : row.length ≤ 4) : spec_l8Best (0 - c) row = some (0 - (lowS c row row.length).1) := by
  unfold spec_l8Best
  refine loop_fn (fun t : Int × Bool × Int => ∃ k : Nat, t.2.2 = k ∧ k ≤ row.length ∧ (0 - t.1, t.2.1) = lowS c row k) (fun t => row.length - t.2.2.toNat)
    (fun _ => 0 - (lowS c row row.length).1) ?_ _ ⟨0, rfl, Nat.zero_le _, rfl⟩
  rintro ⟨b, f, t⟩ ⟨k, rfl, hk, hb⟩
  dsimp only at hb ⊢
  unfold spec_l8Best_l1
  dsimp only
  rcases Nat.lt_or_ge k row.length with h1 | h1
  · left
    have hm := mul_bound (c := c) (x := (k : Int)) hc ⟨by omega, by omega⟩
    have he : (0 - c) * (k : Int) = 0 - c * k := by rw [Int.sub_mul, Int.zero_mul]
    have hn : lowS c row (k + 1) = bif row.getD k false && (!(lowS c row k).2 || decide (c * k < (lowS c row k).1)) then (c * k, true) else lowS c row k := rfl
    rw [← hb] at hn
    dsimp only at hn
    rw [cdec_pos (by omega), rq_pos ⟨by omega, by omega⟩, Int.toNat_natCast, he]
    cases hr : row.getD k false with
    | false =>
      rw [hr, Bool.false_and, cff] at hn
      rw [cff, rq_i64 (by omega) (by omega)]
      exact ⟨_, rfl, ⟨k + 1, by simp, by omega, hn.symm⟩, by (try dsimp only) <;> omega, rfl⟩
    | true =>
      rw [hr, Bool.true_and] at hn
      rw [ctt]
      cases f with
      | false =>
        rw [Bool.not_false, Bool.true_or, ctt] at hn
        rw [cnf, rq_i64 (by omega) (by omega), rq_i64 (by omega) (by omega)]
        exact ⟨_, rfl, ⟨k + 1, by simp, by omega, by rw [hn]; exact congrArg (·, true) (by (try dsimp only) <;> omega)⟩, by (try dsimp only) <;> omega, rfl⟩
      | true =>
        rw [Bool.not_true, Bool.false_or] at hn
        rw [cnt, rq_i64 (by omega) (by omega)]
        by_cases hq : b < 0 - c * k
        · rw [decide_eq_true (by omega), ctt] at hn
          rw [cdec_pos hq, rq_i64 (by omega) (by omega), rq_i64 (by omega) (by omega)]
          exact ⟨_, rfl, ⟨k + 1, by simp, by omega, by rw [hn]; exact congrArg (·, true) (by (try dsimp only) <;> omega)⟩, by (try dsimp only) <;> omega, rfl⟩
        · rw [decide_eq_false (by omega), cff] at hn
          rw [cdec_neg hq, rq_i64 (by omega) (by omega)]
          exact ⟨_, rfl, ⟨k + 1, by simp, by omega, hn.symm⟩, by (try dsimp only) <;> omega, rfl⟩
  · right
    have : k = row.length := by omega
    rw [this] at hb
    rw [← hb]
    dsimp only
    rw [cdec_neg (by omega), show 0 - (0 - b) = b by omega]

theorem impl_LowerBound_eq (m : ModT) (c : List Int) (d : List (List Bool)) (h : smallM m) (hd : smallD d) (hc : c.length ≤ 1048576) : impl_LowerBound m c d = some (lowV m c d) := by
  unfold impl_LowerBound lowV
  rw [impl_DomainsValid_eq m d h hd, bind_s]
  cases h1 : domB m d with
  | false => rw [cnf, Bool.false_and, cff]
  | true =>
    rw [cnt, Bool.true_and, impl_isObjective_eq m c hc, bind_s]
    cases h2 : objB m c with
    | false => rw [cnf, Bool.false_and, cff]
    | true =>
      rw [cnt, Bool.true_and, impl_DomainsEmpty_eq m d h hd, bind_s, h1, Bool.true_and]
      cases h3 : emptyB d with
      | true => rw [ctt, Bool.not_true, cff]
      | false =>
        rw [cff, Bool.not_false, ctt]
        obtain ⟨d1, d2, d3⟩ := domB_len h1
        obtain ⟨c1, c2⟩ := objB_all h2
        refine loop_fn (fun s : Int × Int => ∃ i : Nat, s.2 = i ∧ i ≤ d.length ∧ s.1 = lowT c d i) (fun s => d.length - s.2.toNat) (fun _ => (lowT c d d.length, true)) ?_ _ ⟨0, rfl, Nat.zero_le _, rfl⟩
        rintro ⟨a, s⟩ ⟨i, rfl, hi, ha⟩
        dsimp only at ha ⊢
        subst ha
        unfold impl_LowerBound_l1
        dsimp only
        rcases Nat.lt_or_ge i d.length with h4 | h4
        · left
          have hb := lowT_bound c2 d3 i
          rw [cdec_pos (by omega), rq_pos ⟨by omega, by omega⟩, impl_low_in c2 (d3 i) (by omega) (by omega) (by omega)]
          exact ⟨_, rfl, ⟨i + 1, by simp, by omega, rfl⟩, by (try dsimp only) <;> omega, rfl⟩
        · right
          have : i = d.length := by omega
          subst this
          rw [cdec_neg (by omega)]

theorem spec_LowerBound_eq (m : ModT) (c : List Int) (d : List (List Bool)) (h : smallM m) (hd : smallD d) (hc : c.length ≤ 1048576) : spec_LowerBound m c d = some (lowV m c d) := by
  unfold spec_LowerBound lowV
  rw [spec_l9Coefs_eq m c h hc, bind_s]
  cases h0 : modB m with
  | false =>
    rw [Bool.false_and, cnf]
    unfold domB
    rw [h0, Bool.false_and, Bool.false_and, cff]
  | true =>
    rw [Bool.true_and]
    cases h2 : objB m c with
    | false => rw [cnf, Bool.false_and, Bool.and_false, cff]
    | true =>
      rw [cnt, Bool.true_and, spec_DomainsValid_eq m d h hd, bind_s]
      cases h1 : domB m d with
      | false => rw [cnf, Bool.false_and, cff]
      | true =>
        rw [cnt, Bool.true_and, spec_l8Empty_eq d hd, bind_s]
        cases h3 : emptyB d with
        | true => rw [ctt, Bool.not_true, cff]
        | false =>
          rw [cff, Bool.not_false, ctt]
          obtain ⟨d1, d2, d3⟩ := domB_len h1
          obtain ⟨c1, c2⟩ := objB_all h2
          refine loop_fn (fun s : Int × Int => ∃ i : Nat, s.2 = i ∧ i ≤ d.length ∧ s.1 = lowT c d i) (fun s => d.length - s.2.toNat) (fun _ => (lowT c d d.length, true)) ?_ _ ⟨0, rfl, Nat.zero_le _, rfl⟩
          rintro ⟨a, s⟩ ⟨i, rfl, hi, ha⟩
          dsimp only at ha ⊢
          subst ha
          unfold spec_LowerBound_l1
          dsimp only
          rcases Nat.lt_or_ge i d.length with h4 | h4
          · left
            have hb := lowT_bound c2 d3 i
            have hci := c2 i
            have hs := lowS_bound (row := d.getD i []) (c2 i) (d3 i)
            rw [cdec_pos (by omega), rq_pos ⟨by omega, by omega⟩, Int.toNat_natCast, rq_i64 (by omega) (by omega), rq_pos ⟨by omega, by omega⟩, spec_l8Best_eq (c2 i) (d3 i), bind_s, rq_i64 (by omega) (by omega), rq_i64 (by omega) (by omega)]
            have e : lowT c d (i + 1) = lowT c d i + (lowS (c.getD i 0) (d.getD i []) (d.getD i []).length).1 := rfl
            exact ⟨_, rfl, ⟨i + 1, by simp, by omega, by rw [e]; (try dsimp only) <;> omega⟩, by (try dsimp only) <;> omega, rfl⟩
          · right
            have : i = d.length := by omega
            subst this
            rw [cdec_neg (by omega)]

theorem law_FnExactLowerBound (m : ModT) (c : List Int) (d : List (List Bool)) (h : okD tyModel m) (hd : okD tyDom d) : laws_FnExactLowerBound m c d = some true := by
  unfold laws_FnExactLowerBound
  by_cases h0 : 1048576 < (c.length : Int)
  · rw [cdec_pos h0]
  rw [cdec_neg h0]
  obtain ⟨r, hr, hl, hr2⟩ := szModel_le m h
  rw [hr, bind_s]
  by_cases h1 : r < 0
  · rw [cdec_pos h1]
  obtain ⟨r', hr', _, hr2'⟩ := szDom_ex d r (by omega) hl hd
  rw [cdec_neg h1, hr', bind_s]
  by_cases h2 : r' < 0
  · rw [cdec_pos h2]
  rw [cdec_neg h2]
  have hs : smallM m := hr2.resolve_left h1
  have hsd : smallD d := hr2'.resolve_left h2
  unfold laws_FnExactLowerBound_j1
  simp (disch := first | omega | assumption) only [toModel_eq, toDom_eq, toIntS_eq, bind_s, spec_LowerBound_eq, impl_LowerBound_eq, bne_self_eq_false, cff, eqModel_self, eqDom_self, eqIntS_self, cnt]

end Go.AE.Y
