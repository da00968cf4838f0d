/-
  Plain laws: domains as partial assignments.
-/
import Derived.Test.YtpjbfmifmikloaaP6M
namespace Go.AE.Y
open Go Go.AE

theorem ext_getD {l l' : List Int} (h : l.length = l'.length) (hj : ∀ j, l.getD j 0 = l'.getD j 0) : l = l' := by
  apply List.ext_getElem h
  intro j h1 h2
  have := hj j
  rwa [List.getD_eq_getElem?_getD, List.getElem?_eq_getElem h1, List.getD_eq_getElem?_getD, List.getElem?_eq_getElem h2] at this

/-- The first place of a cell. -/
def baseZ (m : ModT) (i : Nat) : Int := sumZ (m.1.take i)

theorem baseZ_succ {m : ModT} {i : Nat} (h : i < m.1.length) : baseZ m (i + 1) = baseZ m i + (m.1.getD i 0 + 1) := by
  unfold baseZ
  rw [take_snoc6 h, sumZ_snoc]

theorem baseZ_le {m : ModT} (hm : modB m = true) : ∀ i, i ≤ m.1.length → (i : Int) ≤ baseZ m i ∧ baseZ m i ≤ 12 := by
  have hmono : ∀ i n, i + n = m.1.length → baseZ m i ≤ baseZ m m.1.length := by
    intro i n
    induction n generalizing i with
    | zero => intro h; rw [show i = m.1.length by omega]; exact Int.le_refl _
    | succ n ih =>
      intro h
      have h1 := ih (i + 1) (by omega)
      rw [baseZ_succ (by omega)] at h1
      have := modB_size hm (i := i) (by omega)
      omega
  have hlo : ∀ i, i ≤ m.1.length → (i : Int) ≤ baseZ m i := by
    intro i
    induction i with
    | zero => intro _; show ((0 : Nat) : Int) ≤ 0; decide
    | succ n ih =>
      intro h
      have h1 := ih (by omega)
      rw [baseZ_succ (by omega)]
      have := modB_size hm (i := n) (by omega)
      omega
  intro i hi
  refine ⟨hlo i hi, ?_⟩
  have h1 := hmono i (m.1.length - i) (by omega)
  have h2 : baseZ m m.1.length ≤ 12 := by
    unfold baseZ
    rw [List.take_length]
    unfold modB at hm
    simp only [Bool.and_eq_true, decide_eq_true_eq] at hm
    exact hm.2.2.2.1
  omega

theorem impl_boolVar_eq {m : ModT} (hm : modB m = true) {i k : Nat} (hi : i < m.1.length) (hk : k ≤ 100) : impl_Model_boolVar m i k = some (1 + k + baseZ m i) := by
  obtain ⟨m1, m2, m3⟩ := modB_len hm
  unfold impl_Model_boolVar
  rw [rq_i64 (by omega) (by omega), rq_pos ⟨by omega, by omega⟩]
  refine loop_fn (fun s : Int × Int => ∃ t : Nat, s.2 = t ∧ t ≤ i ∧ s.1 = 1 + k + baseZ m t) (fun s => i - s.2.toNat) (fun _ => 1 + k + baseZ m i) ?_ _ ⟨0, rfl, Nat.zero_le _, by show (1 : Int) + k = 1 + k + 0; omega⟩
  rintro ⟨v, s⟩ ⟨t, rfl, ht, rfl⟩
  dsimp only
  unfold impl_Model_boolVar_l1
  dsimp only
  have hl : (m.1.take (i : Int).toNat).length = i := by rw [List.length_take]; omega
  rw [hl]
  rcases Nat.lt_or_ge t i with h1 | h1
  · left
    have hg : (m.1.take (i : Int).toNat).getD (t : Int).toNat 0 = m.1.getD t 0 := by
      rw [Int.toNat_natCast, Int.toNat_natCast, List.getD_eq_getElem?_getD, List.getElem?_take_of_lt h1, List.getD_eq_getElem?_getD]
    have hz := modB_size hm (i := t) (by omega)
    have hb := baseZ_le hm t (by omega)
    have hb' := baseZ_succ (m := m) (i := t) (by omega)
    rw [hg, cdec_pos (by omega), rq_pos ⟨by omega, by omega⟩, rq_i64 (by omega) (by omega), rq_i64 (by omega) (by omega), rq_i64 (by omega) (by omega)]
    exact ⟨_, rfl, ⟨t + 1, by simp, by omega, by rw [hb']; (try dsimp only) <;> omega⟩, by (try dsimp only) <;> omega, rfl⟩
  · right
    have : t = i := by omega
    subst this
    rw [cdec_neg (by omega)]

theorem spec_l7Var_eq {m : ModT} (hm : modB m = true) {i k : Nat} (hi : i < m.1.length) (hk : k ≤ 100) : spec_l7Var m i k = some (1 + k + baseZ m i) := by
  obtain ⟨m1, m2, m3⟩ := modB_len hm
  unfold spec_l7Var
  rw [rq_i64 (by omega) (by omega)]
  refine loop_fn (fun s : Int × Int => ∃ t : Nat, s.2 = t ∧ t ≤ i ∧ s.1 = 1 + k + baseZ m t) (fun s => i - s.2.toNat) (fun _ => 1 + k + baseZ m i) ?_ _ ⟨0, rfl, Nat.zero_le _, by show (1 : Int) + k = 1 + k + 0; omega⟩
  rintro ⟨v, s⟩ ⟨t, rfl, ht, rfl⟩
  dsimp only
  unfold spec_l7Var_l1
  dsimp only
  rcases Nat.lt_or_ge t i with h1 | h1
  · left
    have hz := modB_size hm (i := t) (by omega)
    have hb := baseZ_le hm t (by omega)
    have hb' := baseZ_succ (m := m) (i := t) (by omega)
    rw [cdec_pos (by omega), rq_pos ⟨by omega, by omega⟩, Int.toNat_natCast, rq_i64 (by omega) (by omega), rq_i64 (by omega) (by omega), rq_i64 (by omega) (by omega)]
    exact ⟨_, rfl, ⟨t + 1, by simp, by omega, by rw [hb']; (try dsimp only) <;> omega⟩, by (try dsimp only) <;> omega, rfl⟩
  · right
    have : t = i := by omega
    subst this
    rw [cdec_neg (by omega)]

/-! ### A row's marks -/

/-- How many values are left. -/
def cntF (row : List Bool) : Nat → Int
  | 0 => 0
  | k + 1 => bif row.getD k false then cntF row k + 1 else cntF row k
/-- A row's marks, in one pass. -/
def rowF (b : Nat) (row : List Bool) (one : Bool) (o : List Int) : Nat → List Int
  | 0 => o
  | k + 1 => bif row.getD k false then (bif one then (rowF b row one o k).set (b + k) 1 else rowF b row one o k) else (rowF b row one o k).set (b + k) (-1)
/-- The values that are gone. -/
def goneF (b : Nat) (row : List Bool) (o : List Int) : Nat → List Int
  | 0 => o
  | k + 1 => bif row.getD k false then goneF b row o k else (goneF b row o k).set (b + k) (-1)
/-- The values that are left. -/
def leftF (b : Nat) (row : List Bool) (o : List Int) : Nat → List Int
  | 0 => o
  | k + 1 => bif row.getD k false then (leftF b row o k).set (b + k) 1 else leftF b row o k

theorem cntF_bound (row : List Bool) : ∀ k, 0 ≤ cntF row k ∧ cntF row k ≤ k
  | 0 => ⟨Int.le_refl _, Int.le_refl _⟩
  | k + 1 => by
    have := cntF_bound row k
    unfold cntF
    cases row.getD k false with
    | true => rw [ctt]; omega
    | false => rw [cff]; omega

theorem rowF_len (b : Nat) (row : List Bool) (one : Bool) (o : List Int) : ∀ k, (rowF b row one o k).length = o.length
  | 0 => rfl
  | k + 1 => by
    have := rowF_len b row one o k
    unfold rowF
    cases row.getD k false <;> cases one <;> simp [this]
theorem goneF_len (b : Nat) (row : List Bool) (o : List Int) : ∀ k, (goneF b row o k).length = o.length
  | 0 => rfl
  | k + 1 => by
    have := goneF_len b row o k
    unfold goneF
    cases row.getD k false <;> simp [this]
theorem leftF_len (b : Nat) (row : List Bool) (o : List Int) : ∀ k, (leftF b row o k).length = o.length
  | 0 => rfl
  | k + 1 => by
    have := leftF_len b row o k
    unfold leftF
    cases row.getD k false <;> simp [this]

theorem rowF_get {b : Nat} {row : List Bool} {one : Bool} {o : List Int} : ∀ {k : Nat}, b + k ≤ o.length → ∀ j, (rowF b row one o k).getD j 0 = if b ≤ j ∧ j < b + k then (bif row.getD (j - b) false then (bif one then 1 else o.getD j 0) else -1) else o.getD j 0
  | 0, _, j => by rw [if_neg (by omega)]; rfl
  | k + 1, h, j => by
    have ih := rowF_get (b := b) (row := row) (one := one) (o := o) (k := k) (by omega) j
    have hl := rowF_len b row one o k
    unfold rowF
    by_cases hj : j = b + k
    · subst hj
      rw [if_neg (by omega)] at ih
      rw [if_pos (by omega), show b + k - b = k by omega]
      cases row.getD k false with
      | true =>
        cases one with
        | true => rw [ctt, ctt, ctt, ctt, getD_set_eq' (by omega)]
        | false => rw [ctt, cff, ctt, cff]; exact ih
      | false => rw [cff, cff, getD_set_eq' (by omega)]
    · have e : (b ≤ j ∧ j < b + (k + 1)) ↔ (b ≤ j ∧ j < b + k) := by omega
      simp only [e]
      rw [← ih]
      cases row.getD k false with
      | true =>
        cases one with
        | true => rw [ctt, ctt, getD_set_ne' (by omega)]
        | false => rw [ctt, cff]
      | false => rw [cff, getD_set_ne' (by omega)]

theorem goneF_get {b : Nat} {row : List Bool} {o : List Int} : ∀ {k : Nat}, b + k ≤ o.length → ∀ j, (goneF b row o k).getD j 0 = if b ≤ j ∧ j < b + k then (bif row.getD (j - b) false then o.getD j 0 else -1) else o.getD j 0
  | 0, _, j => by rw [if_neg (by omega)]; rfl
  | k + 1, h, j => by
    have ih := goneF_get (b := b) (row := row) (o := o) (k := k) (by omega) j
    have hl := goneF_len b row o k
    unfold goneF
    by_cases hj : j = b + k
    · subst hj
      rw [if_neg (by omega)] at ih
      rw [if_pos (by omega), show b + k - b = k by omega]
      cases row.getD k false with
      | true => rw [ctt, ctt]; exact ih
      | false => rw [cff, cff, getD_set_eq' (by omega)]
    · have e : (b ≤ j ∧ j < b + (k + 1)) ↔ (b ≤ j ∧ j < b + k) := by omega
      simp only [e]
      rw [← ih]
      cases row.getD k false with
      | true => rw [ctt]
      | false => rw [cff, getD_set_ne' (by omega)]

theorem leftF_get {b : Nat} {row : List Bool} {o : List Int} : ∀ {k : Nat}, b + k ≤ o.length → ∀ j, (leftF b row o k).getD j 0 = if b ≤ j ∧ j < b + k then (bif row.getD (j - b) false then 1 else o.getD j 0) else o.getD j 0
  | 0, _, j => by rw [if_neg (by omega)]; rfl
  | k + 1, h, j => by
    have ih := leftF_get (b := b) (row := row) (o := o) (k := k) (by omega) j
    have hl := leftF_len b row o k
    unfold leftF
    by_cases hj : j = b + k
    · subst hj
      rw [if_neg (by omega)] at ih
      rw [if_pos (by omega), show b + k - b = k by omega]
      cases row.getD k false with
      | true => rw [ctt, ctt, getD_set_eq' (by omega)]
      | false => rw [cff, cff]; exact ih
    · have e : (b ≤ j ∧ j < b + (k + 1)) ↔ (b ≤ j ∧ j < b + k) := by omega
      simp only [e]
      rw [← ih]
      cases row.getD k false with
      | true => rw [ctt, getD_set_ne' (by omega)]
      | false => rw [cff]

/-- Two passes do what one does. -/
theorem two_pass {b : Nat} {row : List Bool} {one : Bool} {o : List Int} {k : Nat} (h : b + k ≤ o.length) : (bif one then leftF b row (goneF b row o k) k else goneF b row o k) = rowF b row one o k := by
  cases one with
  | true =>
    rw [ctt]
    refine ext_getD (by rw [leftF_len, goneF_len, rowF_len]) (fun j => ?_)
    rw [leftF_get (by rw [goneF_len]; exact h), goneF_get h, rowF_get h, ctt]
    by_cases hj : b ≤ j ∧ j < b + k
    · rw [if_pos hj, if_pos hj, if_pos hj]
      cases row.getD (j - b) false <;> rfl
    · rw [if_neg hj, if_neg hj, if_neg hj]
  | false =>
    rw [cff]
    refine ext_getD (by rw [goneF_len, rowF_len]) (fun j => ?_)
    rw [goneF_get h, rowF_get h, cff]

/-- The marks of the first n cells. -/
noncomputable def domF (m : ModT) (d : List (List Bool)) : Nat → List Int
  | 0 => List.replicate 12 0
  | n + 1 => rowF (baseZ m n).toNat (d.getD n []) (cntF (d.getD n []) (d.getD n []).length == 1) (domF m d n) (d.getD n []).length
noncomputable def domP (m : ModT) (d : List (List Bool)) : Bool × List Int := bif domB m d then (true, domF m d d.length) else (false, [])

theorem domF_len (m : ModT) (d : List (List Bool)) : ∀ n, (domF m d n).length = 12
  | 0 => by unfold domF; exact List.length_replicate
  | n + 1 => by unfold domF; rw [rowF_len, domF_len m d n]

theorem dom_room {m : ModT} {d : List (List Bool)} (hd : domB m d = true) {i : Nat} (hi : i < d.length) : 0 ≤ baseZ m i ∧ (baseZ m i).toNat + (d.getD i []).length ≤ 12 ∧ (d.getD i []).length ≤ 4 := by
  obtain ⟨d1, d2, d3⟩ := domB_row hd
  have h1 := baseZ_le d1 (i + 1) (by omega)
  have h2 := baseZ_le d1 i (by omega)
  rw [baseZ_succ (by omega)] at h1
  have h3 := d3 i hi
  have h4 := modB_size d1 (i := i) (by omega)
  omega

theorem impl_row_eq {m : ModT} {d : List (List Bool)} (hd : domB m d = true) {i : Nat} (hi : i < d.length) (c : Int) {o : List Int} (ho : o.length = 12) :
    loop (impl_DomainsPartial_l3 m d i c) ((0 : Int), o) = some (.inr (.inl ((i : Int) + 1, rowF (baseZ m i).toNat (d.getD i []) (c == 1) o (d.getD i []).length))) := by
  obtain ⟨d1, d2, d3⟩ := domB_row hd
  obtain ⟨m1, m2, m3⟩ := modB_len d1
  obtain ⟨b1, b2, b3⟩ := dom_room hd hi
  refine loop_fn (f := impl_DomainsPartial_l3 m d i c) (fun s : Int × List Int => ∃ k : Nat, s.1 = k ∧ k ≤ (d.getD i []).length ∧ s.2 = rowF (baseZ m i).toNat (d.getD i []) (c == 1) o k) (fun s => (d.getD i []).length - s.1.toNat) (fun _ => .inr (.inl ((i : Int) + 1, rowF (baseZ m i).toNat (d.getD i []) (c == 1) o (d.getD i []).length))) ?_ _ ⟨0, rfl, Nat.zero_le _, rfl⟩
  rintro ⟨s, o'⟩ ⟨k, rfl, hk, rfl⟩
  dsimp only
  unfold impl_DomainsPartial_l3
  dsimp only
  rw [Int.toNat_natCast]
  rcases Nat.lt_or_ge k (d.getD i []).length with h1 | h1
  · left
    have hl := rowF_len (baseZ m i).toNat (d.getD i []) (c == 1) o k
    have hn : rowF (baseZ m i).toNat (d.getD i []) (c == 1) o (k + 1) = bif (d.getD i []).getD k false then (bif c == 1 then (rowF (baseZ m i).toNat (d.getD i []) (c == 1) o k).set ((baseZ m i).toNat + k) 1 else rowF (baseZ m i).toNat (d.getD i []) (c == 1) o k) else (rowF (baseZ m i).toNat (d.getD i []) (c == 1) o k).set ((baseZ m i).toNat + k) (-1) := rfl
    have he : ((1 : Int) + k + baseZ m i - 1).toNat = (baseZ m i).toNat + k := by omega
    rw [cdec_pos (by omega), rq_pos ⟨by omega, by omega⟩, impl_boolVar_eq d1 (by omega) (by omega), bind_s, rq_i64 (by omega) (by omega), Int.toNat_natCast, he]
    cases hr : (d.getD i []).getD k false with
    | false =>
      rw [hr, cff] at hn
      rw [cnf, rq_pos ⟨by omega, by omega⟩, rq_i64 (by omega) (by omega)]
      exact ⟨_, rfl, ⟨k + 1, by simp, by omega, hn.symm⟩, by (try dsimp only) <;> omega, rfl⟩
    | true =>
      rw [hr, ctt] at hn
      rw [cnt]
      cases hc : c == 1 with
      | true =>
        rw [hc, ctt] at hn
        rw [hc] at hl
        rw [ctt, rq_pos ⟨by omega, by omega⟩, rq_i64 (by omega) (by omega)]
        exact ⟨_, rfl, ⟨k + 1, by simp, by omega, hn.symm⟩, by (try dsimp only) <;> omega, rfl⟩
      | false =>
        rw [hc, cff] at hn
        rw [cff, rq_i64 (by omega) (by omega)]
        exact ⟨_, rfl, ⟨k + 1, by simp, by omega, hn.symm⟩, by (try dsimp only) <;> omega, rfl⟩
  · right
    have : k = (d.getD i []).length := by omega
    rw [this, cdec_neg (by omega), rq_i64 (by omega) (by omega)]

theorem impl_cnt_eq {m : ModT} {d : List (List Bool)} (hd : domB m d = true) {i : Nat} (hi : i < d.length) {o : List Int} (ho : o.length = 12) :
    loop (impl_DomainsPartial_l2 m d i o) ((0 : Int), (0 : Int)) = some (.inl ((i : Int) + 1, rowF (baseZ m i).toNat (d.getD i []) (cntF (d.getD i []) (d.getD i []).length == 1) o (d.getD i []).length)) := by
  obtain ⟨b1, b2, b3⟩ := dom_room hd hi
  refine loop_fn (f := impl_DomainsPartial_l2 m d i o) (fun s : Int × Int => ∃ k : Nat, s.2 = k ∧ k ≤ (d.getD i []).length ∧ s.1 = cntF (d.getD i []) k) (fun s => (d.getD i []).length - s.2.toNat) (fun _ => .inl ((i : Int) + 1, rowF (baseZ m i).toNat (d.getD i []) (cntF (d.getD i []) (d.getD i []).length == 1) o (d.getD i []).length)) ?_ _ ⟨0, rfl, Nat.zero_le _, rfl⟩
  rintro ⟨c, s⟩ ⟨k, rfl, hk, hc⟩
  dsimp only at hc ⊢
  subst hc
  unfold impl_DomainsPartial_l2
  dsimp only
  rw [Int.toNat_natCast]
  have hb := cntF_bound (d.getD i []) k
  rcases Nat.lt_or_ge k (d.getD i []).length with h1 | h1
  · left
    have hn : cntF (d.getD i []) (k + 1) = bif (d.getD i []).getD k false then cntF (d.getD i []) k + 1 else cntF (d.getD i []) k := rfl
    rw [cdec_pos (by omega), rq_pos ⟨by omega, by omega⟩, Int.toNat_natCast]
    cases hr : (d.getD i []).getD k false with
    | true =>
      rw [hr, ctt] at hn
      rw [ctt, rq_i64 (by omega) (by omega), rq_i64 (by omega) (by omega)]
      exact ⟨_, rfl, ⟨k + 1, by simp, by omega, hn.symm⟩, by (try dsimp only) <;> omega, rfl⟩
    | false =>
      rw [hr, cff] at hn
      rw [cff, rq_i64 (by omega) (by omega)]
      exact ⟨_, rfl, ⟨k + 1, by simp, by omega, hn.symm⟩, by (try dsimp only) <;> omega, rfl⟩
  · right
    have : k = (d.getD i []).length := by omega
    rw [this, cdec_neg (by omega), impl_row_eq hd hi _ ho]

theorem impl_DomainsPartial_eq (m : ModT) (d : List (List Bool)) (h : smallM m) (hd : smallD d) : impl_DomainsPartial m d = some (domP m d) := by
  unfold impl_DomainsPartial domP
  rw [impl_DomainsValid_eq m d h hd, bind_s]
  cases h1 : domB m d with
  | false => rw [cnf, cff]
  | true =>
    obtain ⟨d1, d2, d3⟩ := domB_row h1
    obtain ⟨m1, m2, m3⟩ := modB_len d1
    rw [cnt, ctt, rq_pos ⟨by omega, by simp only [bound]; omega, rfl⟩]
    refine loop_fn (fun s : Int × List Int => ∃ i : Nat, s.1 = i ∧ i ≤ d.length ∧ s.2 = domF m d i) (fun s => d.length - s.1.toNat) (fun _ => (true, domF m d d.length)) ?_ _ ⟨0, rfl, Nat.zero_le _, rfl⟩
    rintro ⟨s, o⟩ ⟨i, rfl, hi, rfl⟩
    dsimp only
    unfold impl_DomainsPartial_l1
    dsimp only
    rcases Nat.lt_or_ge i d.length with h2 | h2
    · left
      rw [cdec_pos (by omega), rq_pos ⟨by omega, by omega⟩, impl_cnt_eq h1 h2 (domF_len m d i)]
      exact ⟨_, rfl, ⟨i + 1, by simp, by omega, rfl⟩, by (try dsimp only) <;> omega, rfl⟩
    · right
      have : i = d.length := by omega
      subst this
      rw [cdec_neg (by omega)]

theorem spec_left_eq {m : ModT} {d : List (List Bool)} (hd : domB m d = true) {i : Nat} (hi : i < d.length) (c : Int) {o : List Int} (ho : o.length = 12) :
    spec_DomainsPartial_j1 m d i (c, o) = some (.inl ((i : Int) + 1, bif c == 1 then leftF (baseZ m i).toNat (d.getD i []) o (d.getD i []).length else o)) := by
  obtain ⟨d1, d2, d3⟩ := domB_row hd
  obtain ⟨m1, m2, m3⟩ := modB_len d1
  obtain ⟨b1, b2, b3⟩ := dom_room hd hi
  unfold spec_DomainsPartial_j1
  dsimp only
  cases hc : c == 1 with
  | false =>
    rw [cff, loop_eq]
    unfold spec_DomainsPartial_l2
    dsimp only
    rw [rq_pos ⟨by omega, by omega⟩, Int.toNat_natCast, hc, cff]
    cases decide ((0 : Int) < ((d.getD i []).length : Int)) with
    | true => rw [ctt, rq_i64 (by omega) (by omega)]; rfl
    | false => rw [cff, rq_i64 (by omega) (by omega)]; rfl
  | true =>
    rw [ctt]
    refine loop_fn (f := spec_DomainsPartial_l2 m d i c) (fun s : Int × List Int => ∃ k : Nat, s.1 = k ∧ k ≤ (d.getD i []).length ∧ s.2 = leftF (baseZ m i).toNat (d.getD i []) o k) (fun s => (d.getD i []).length - s.1.toNat) (fun _ => .inl ((i : Int) + 1, leftF (baseZ m i).toNat (d.getD i []) o (d.getD i []).length)) ?_ _ ⟨0, rfl, Nat.zero_le _, rfl⟩
    rintro ⟨s, o'⟩ ⟨k, rfl, hk, rfl⟩
    dsimp only
    unfold spec_DomainsPartial_l2
    dsimp only
    rw [Int.toNat_natCast, rq_pos ⟨by omega, by omega⟩, hc]
    rcases Nat.lt_or_ge k (d.getD i []).length with h1 | h1
    · left
      have hl := leftF_len (baseZ m i).toNat (d.getD i []) o k
      have hn : leftF (baseZ m i).toNat (d.getD i []) o (k + 1) = bif (d.getD i []).getD k false then (leftF (baseZ m i).toNat (d.getD i []) o k).set ((baseZ m i).toNat + k) 1 else leftF (baseZ m i).toNat (d.getD i []) o k := rfl
      have he : ((1 : Int) + k + baseZ m i - 1).toNat = (baseZ m i).toNat + k := by omega
      rw [cdec_pos (by omega), ctt, rq_pos ⟨by omega, by omega⟩, rq_pos ⟨by omega, by omega⟩, Int.toNat_natCast]
      cases hr : (d.getD i []).getD k false with
      | true =>
        rw [hr, ctt] at hn
        rw [ctt, spec_l7Var_eq d1 (by omega) (by omega), bind_s, rq_i64 (by omega) (by omega), rq_pos ⟨by omega, by omega⟩, rq_i64 (by omega) (by omega), he]
        exact ⟨_, rfl, ⟨k + 1, by simp, by omega, hn.symm⟩, by (try dsimp only) <;> omega, rfl⟩
      | false =>
        rw [hr, cff] at hn
        rw [cff, rq_i64 (by omega) (by omega)]
        exact ⟨_, rfl, ⟨k + 1, by simp, by omega, hn.symm⟩, by (try dsimp only) <;> omega, rfl⟩
    · right
      have : k = (d.getD i []).length := by omega
      rw [this, cdec_neg (by omega), rq_i64 (by omega) (by omega)]

theorem spec_row_eq {m : ModT} {d : List (List Bool)} (hd : domB m d = true) {i : Nat} (hi : i < d.length) {o : List Int} (ho : o.length = 12) :
    loop (spec_DomainsPartial_l3 m d i) ((0 : Int), (0 : Int), o) = some (.inl ((i : Int) + 1, rowF (baseZ m i).toNat (d.getD i []) (cntF (d.getD i []) (d.getD i []).length == 1) o (d.getD i []).length)) := by
  obtain ⟨d1, d2, d3⟩ := domB_row hd
  obtain ⟨m1, m2, m3⟩ := modB_len d1
  obtain ⟨b1, b2, b3⟩ := dom_room hd hi
  refine loop_fn (f := spec_DomainsPartial_l3 m d i) (fun s : Int × Int × List Int => ∃ k : Nat, s.2.1 = k ∧ k ≤ (d.getD i []).length ∧ s.1 = cntF (d.getD i []) k ∧ s.2.2 = goneF (baseZ m i).toNat (d.getD i []) o k) (fun s => (d.getD i []).length - s.2.1.toNat) (fun _ => .inl ((i : Int) + 1, rowF (baseZ m i).toNat (d.getD i []) (cntF (d.getD i []) (d.getD i []).length == 1) o (d.getD i []).length)) ?_ _ ⟨0, rfl, Nat.zero_le _, rfl, rfl⟩
  rintro ⟨c, s, o'⟩ ⟨k, rfl, hk, hc, rfl⟩
  dsimp only at hc ⊢
  subst hc
  unfold spec_DomainsPartial_l3
  dsimp only
  have hb := cntF_bound (d.getD i []) k
  have hl := goneF_len (baseZ m i).toNat (d.getD i []) o k
  rw [Int.toNat_natCast, rq_pos ⟨by omega, by omega⟩]
  rcases Nat.lt_or_ge k (d.getD i []).length with h1 | h1
  · left
    have hn : cntF (d.getD i []) (k + 1) = bif (d.getD i []).getD k false then cntF (d.getD i []) k + 1 else cntF (d.getD i []) k := rfl
    have hg : goneF (baseZ m i).toNat (d.getD i []) o (k + 1) = bif (d.getD i []).getD k false then goneF (baseZ m i).toNat (d.getD i []) o k else (goneF (baseZ m i).toNat (d.getD i []) o k).set ((baseZ m i).toNat + k) (-1) := rfl
    have he : ((1 : Int) + k + baseZ m i - 1).toNat = (baseZ m i).toNat + k := by omega
    rw [cdec_pos (by omega), rq_pos ⟨by omega, by omega⟩, rq_pos ⟨by omega, by omega⟩, Int.toNat_natCast]
    cases hr : (d.getD i []).getD k false with
    | true =>
      rw [hr, ctt] at hn hg
      rw [ctt, rq_i64 (by omega) (by omega), rq_i64 (by omega) (by omega)]
      exact ⟨_, rfl, ⟨k + 1, by simp, by omega, hn.symm, hg.symm⟩, by (try dsimp only) <;> omega, rfl⟩
    | false =>
      rw [hr, cff] at hn hg
      rw [cff, spec_l7Var_eq d1 (by omega) (by omega), bind_s, rq_i64 (by omega) (by omega), rq_pos ⟨by omega, by omega⟩, rq_i64 (by omega) (by omega), he]
      exact ⟨_, rfl, ⟨k + 1, by simp, by omega, hn.symm, hg.symm⟩, by (try dsimp only) <;> omega, rfl⟩
  · right
    have : k = (d.getD i []).length := by omega
    subst this
    rw [cdec_neg (by omega), spec_left_eq hd hi _ (by omega), two_pass (by omega)]
    rfl

theorem spec_DomainsPartial_eq (m : ModT) (d : List (List Bool)) (h : smallM m) (hd : smallD d) : spec_DomainsPartial m d = some (domP m d) := by
  unfold spec_DomainsPartial domP
  rw [spec_DomainsValid_eq m d h hd, bind_s]
  cases h1 : domB m d with
  | false => rw [cnf, cff]
  | true =>
    obtain ⟨d1, d2, d3⟩ := domB_row h1
    obtain ⟨m1, m2, m3⟩ := modB_len d1
    rw [cnt, ctt, rq_pos ⟨by omega, by simp only [bound]; omega, rfl⟩]
    refine loop_fn (fun s : Int × List Int => ∃ i : Nat, s.1 = i ∧ i ≤ d.length ∧ s.2 = domF m d i) (fun s => d.length - s.1.toNat) (fun _ => (true, domF m d d.length)) ?_ _ ⟨0, rfl, Nat.zero_le _, rfl⟩
    rintro ⟨s, o⟩ ⟨i, rfl, hi, rfl⟩
    dsimp only
    unfold spec_DomainsPartial_l1
    dsimp only
    rcases Nat.lt_or_ge i d.length with h2 | h2
    · left
      rw [cdec_pos (by omega), spec_row_eq h1 h2 (domF_len m d i)]
      exact ⟨_, rfl, ⟨i + 1, by simp, by omega, rfl⟩, by (try dsimp only) <;> omega, rfl⟩
    · right
      have : i = d.length := by omega
      subst this
      rw [cdec_neg (by omega)]

theorem domP_len (m : ModT) (d : List (List Bool)) : (domP m d).2.length ≤ 12 := by
  unfold domP
  cases domB m d with
  | true => rw [ctt]; dsimp only; rw [domF_len]; omega
  | false => rw [cff]; simp

theorem law_FnExactDomainsPartial (m : ModT) (d : List (List Bool)) (h : okD tyModel m) (hd : okD tyDom d) : laws_FnExactDomainsPartial m d = some true := by
  unfold laws_FnExactDomainsPartial
  obtain ⟨r, hr, hl, hr2⟩ := szModel_le m h
  rw [hr, bind_s]
  by_cases h1 : r < 0
  · rw [cdec_pos h1]
  obtain ⟨r', hr', _, hr2'⟩ := szDom_ex d r (by omega) hl hd
  rw [cdec_neg h1, hr', bind_s]
  by_cases h2 : r' < 0
  · rw [cdec_pos h2]
  rw [cdec_neg h2]
  have hs : smallM m := hr2.resolve_left h1
  have hsd : smallD d := hr2'.resolve_left h2
  have hb := domP_len m d
  obtain ⟨k1, e1, p1, p1', _⟩ := markModel_ex m hs
  have hd1 := hsd.1
  obtain ⟨k2, e2, p2, _⟩ := markBoolSS_ex d k1.1 ⟨by omega, by omega⟩ hsd.1 hsd.2
  obtain ⟨m2, q4, q5, q6⟩ := markHeldInt (domP m d).2 (by omega)
  unfold laws_FnExactDomainsPartial_j1
  simp (disch := first | omega | assumption) only [toModel_eq, toDom_eq, bind_s, spec_DomainsPartial_eq, impl_DomainsPartial_eq, bne_self_eq_false, cff, eqModel_self, eqDom_self, eqIntS_self, cnt, e1, e2, q4, q6, cdec_neg]

end Go.AE.Y
