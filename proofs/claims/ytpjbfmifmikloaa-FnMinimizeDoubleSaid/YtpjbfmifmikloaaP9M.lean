/-
  Plain laws: minima of models.
-/
import Derived.Test.YtpjbfmifmikloaaP6H
import Derived.Test.YtpjbfmifmikloaaP6M
namespace Go.AE.Y
open Go Go.AE

/-- The next cells, from place n down. -/
def odoF (s : List Int) : Nat → List Int → Bool × List Int
  | 0, x => (false, x)
  | n + 1, x => bif decide (x.getD n 0 < s.getD n 0) then (true, x.set n (x.getD n 0 + 1)) else odoF s n (x.set n 0)
/-- A number for cells. -/
def numF (x : List Int) : Nat → Int
  | 0 => 0
  | n + 1 => 4 * numF x n + x.getD n 0
/-- Every digit is in its bounds. -/
def Dig (s x : List Int) : Prop := ∀ i, 0 ≤ x.getD i 0 ∧ x.getD i 0 ≤ s.getD i 0

theorem odo_succ (s : List Int) (n : Nat) (x : List Int) : odoF s (n + 1) x = bif decide (x.getD n 0 < s.getD n 0) then (true, x.set n (x.getD n 0 + 1)) else odoF s n (x.set n 0) := rfl

theorem odo_len (s : List Int) : ∀ n x, (odoF s n x).2.length = x.length
  | 0, _ => rfl
  | n + 1, x => by
    unfold odoF
    cases decide (x.getD n 0 < s.getD n 0) with
    | true => rw [ctt]; exact List.length_set
    | false => rw [cff, odo_len s n]; exact List.length_set

theorem dig_set {s x : List Int} (h : Dig s x) {n : Nat} {v : Int} (h0 : 0 ≤ v) (h1 : v ≤ s.getD n 0) : Dig s (x.set n v) := by
  intro i
  rw [getD_set]
  by_cases hi : n = i ∧ n < x.length
  · rw [if_pos hi, ← hi.1]; exact ⟨h0, h1⟩
  · rw [if_neg hi]; exact h i

theorem odo_dig {s : List Int} : ∀ n x, Dig s x → Dig s (odoF s n x).2
  | 0, _, h => h
  | n + 1, x, h => by
    have hn := h n
    unfold odoF
    cases hq : decide (x.getD n 0 < s.getD n 0) with
    | true =>
      have := of_decide_eq_true hq
      rw [ctt]
      exact dig_set h (by omega) (by omega)
    | false =>
      rw [cff]
      exact odo_dig n _ (dig_set h (by omega) (by omega))

theorem odo_more {s : List Int} : ∀ n x, n ≤ x.length → (odoF s n x).1 = true → ∃ k, k < n ∧ (odoF s n x).2.getD k 0 = x.getD k 0 + 1 ∧ (∀ j, j < k → (odoF s n x).2.getD j 0 = x.getD j 0) ∧ ∀ j, k < j → j < n → (odoF s n x).2.getD j 0 = 0
  | 0, _, _, h => by cases h
  | n + 1, x, hl, h => by
    unfold odoF at h ⊢
    cases hq : decide (x.getD n 0 < s.getD n 0) with
    | true =>
      rw [ctt]
      refine ⟨n, by omega, getD_set_eq' (by omega), fun j hj => getD_set_ne' (by omega), fun j h1 h2 => by omega⟩
    | false =>
      rw [hq, cff] at h
      rw [cff]
      obtain ⟨k, k1, k2, k3, k4⟩ := odo_more n (x.set n 0) (by rw [List.length_set]; omega) h
      have hn : (odoF s n (x.set n 0)).2.getD n 0 = 0 := by
        have : ∀ n' y, n' ≤ n → (odoF s n' y).2.getD n 0 = y.getD n 0 := by
          intro n'
          induction n' with
          | zero => intro y _; rfl
          | succ a ih =>
            intro y ha
            unfold odoF
            cases decide (y.getD a 0 < s.getD a 0) with
            | true => rw [ctt]; exact getD_set_ne' (by omega)
            | false => rw [cff, ih _ (by omega)]; exact getD_set_ne' (by omega)
        rw [this n _ (Nat.le_refl _)]
        exact getD_set_eq' (by omega)
      refine ⟨k, by omega, by rw [k2, getD_set_ne' (by omega)], fun j hj => by rw [k3 j hj, getD_set_ne' (by omega)], fun j h1 h2 => ?_⟩
      rcases Nat.lt_or_ge j n with h3 | h3
      · exact k4 j h1 h3
      · rw [show j = n by omega]; exact hn

theorem num_lt {x y : List Int} {k : Nat} (h1 : y.getD k 0 = x.getD k 0 + 1) (h2 : ∀ j, j < k → y.getD j 0 = x.getD j 0) (h3 : ∀ i, x.getD i 0 ≤ 3) {n : Nat} (h4 : ∀ j, k < j → j < n → y.getD j 0 = 0) :
    (∀ j, j ≤ k → numF y j = numF x j) ∧ (k < n → numF x n + 1 ≤ numF y n) := by
  have e : ∀ j, j ≤ k → numF y j = numF x j := by
    intro j
    induction j with
    | zero => intro _; rfl
    | succ j ih =>
      intro hj
      unfold numF
      rw [ih (by omega), h2 j (by omega)]
  refine ⟨e, ?_⟩
  induction n with
  | zero => intro h; omega
  | succ n ih =>
    intro hk
    unfold numF
    rcases Nat.lt_or_ge k n with h5 | h5
    · have := ih (fun j a b => h4 j a (by omega)) h5
      have := h4 n h5 (by omega)
      have := h3 n
      omega
    · have : k = n := by omega
      subst this
      rw [e k (Nat.le_refl _), h1]
      omega

theorem num_bound {x : List Int} (h : ∀ i, 0 ≤ x.getD i 0 ∧ x.getD i 0 ≤ 3) : ∀ n : Nat, 0 ≤ numF x n ∧ numF x n + 1 ≤ ((4 ^ n : Nat) : Int)
  | 0 => ⟨Int.le_refl _, by show (0 : Int) + 1 ≤ ((4 ^ 0 : Nat) : Int); decide⟩
  | n + 1 => by
    have ih := num_bound h n
    have := h n
    have e : ((4 ^ (n + 1) : Nat) : Int) = 4 * ((4 ^ n : Nat) : Int) := by rw [Nat.pow_succ]; omega
    rw [e]
    unfold numF
    omega

/-- The next cells have a greater number. -/
theorem cells_dig {m : ModT} {x : List Int} (hx : cellsB m x = true) : x.length = m.1.length ∧ Dig m.1 x := by
  obtain ⟨x1, x2⟩ := cellsB_c hx
  refine ⟨x1, fun i => ?_⟩
  rcases Nat.lt_or_ge i x.length with h | h
  · exact x2 i h
  · rw [List.getD_eq_getElem?_getD, List.getElem?_eq_none h, List.getD_eq_getElem?_getD, List.getElem?_eq_none (by omega)]
    decide

theorem dig_cells {m : ModT} {x : List Int} (hl : x.length = m.1.length) (h : Dig m.1 x) : cellsB m x = true := by
  unfold cellsB cellAt
  simp only [Bool.and_eq_true, decide_eq_true_eq, List.all_eq_true]
  exact ⟨hl, fun i _ => h i⟩

theorem dig_three {m : ModT} {x : List Int} (hm : modB m = true) (h : Dig m.1 x) : ∀ i, 0 ≤ x.getD i 0 ∧ x.getD i 0 ≤ 3 := by
  intro i
  have h1 := h i
  rcases Nat.lt_or_ge i m.1.length with h2 | h2
  · have := modB_sz hm h2
    omega
  · have e : m.1.getD i 0 = 0 := by rw [List.getD_eq_getElem?_getD, List.getElem?_eq_none h2]; rfl
    omega

def nextF (m : ModT) (x : List Int) : Bool × List Int := odoF m.1 x.length x
def muF (x : List Int) : Nat := 1024 - (numF x x.length).toNat

theorem next_ok {m : ModT} {x : List Int} (hx : cellsB m x = true) : cellsB m (nextF m x).2 = true := by
  obtain ⟨x1, x2⟩ := cells_dig hx
  exact dig_cells (by unfold nextF; rw [odo_len]; exact x1) (odo_dig _ _ x2)

theorem mu_pos {m : ModT} {x : List Int} (hm : modB m = true) (hx : cellsB m x = true) : 1 ≤ muF x ∧ 0 ≤ numF x x.length ∧ numF x x.length ≤ 1023 := by
  obtain ⟨x1, x2⟩ := cells_dig hx
  obtain ⟨m1, m2, m3⟩ := modB_len hm
  have hb := num_bound (dig_three hm x2) x.length
  have h4 : 4 ^ x.length ≤ 4 ^ 5 := Nat.pow_le_pow_right (by decide) (by omega)
  have h5 : (4 : Nat) ^ 5 = 1024 := by decide
  unfold muF
  omega

theorem next_mu {m : ModT} {x : List Int} (hm : modB m = true) (hx : cellsB m x = true) (h : (nextF m x).1 = true) : muF (nextF m x).2 < muF x := by
  obtain ⟨x1, x2⟩ := cells_dig hx
  have hp := mu_pos hm hx
  have hp' := mu_pos hm (next_ok hx)
  have hl : (nextF m x).2.length = x.length := odo_len _ _ _
  obtain ⟨k, k1, k2, k3, k4⟩ := odo_more (s := m.1) x.length x (Nat.le_refl _) h
  have := (num_lt k2 k3 (fun i => (dig_three hm x2 i).2) k4).2 k1
  unfold muF at *
  rw [hl] at hp' ⊢
  have e : numF (nextF m x).2 x.length = numF (odoF m.1 x.length x).2 x.length := rfl
  omega

/-! ### The search -/

def betterB (m : ModT) (c b x : List Int) : List Int := bif solvesB m x && (b.isEmpty || decide (valZ c x x.length < valZ c b b.length)) then x else b
def walkF (m : ModT) (c : List Int) : Nat → List Int → List Int → List Int
  | 0, x, b => betterB m c b x
  | n + 1, x, b => bif (nextF m x).1 then walkF m c n (nextF m x).2 (betterB m c b x) else betterB m c b x

theorem walk_same {m : ModT} {c : List Int} (hm : modB m = true) : ∀ n n' x b, cellsB m x = true → muF x ≤ n → muF x ≤ n' → walkF m c n x b = walkF m c n' x b
  | 0, _, x, _, hx, h, _ => by have := (mu_pos hm hx).1; omega
  | _ + 1, 0, x, _, hx, _, h => by have := (mu_pos hm hx).1; omega
  | n + 1, n' + 1, x, b, hx, h, h' => by
    unfold walkF
    cases hq : (nextF m x).1 with
    | false => rfl
    | true =>
      have := next_mu hm hx hq
      rw [ctt, ctt]
      exact walk_same hm n n' _ _ (next_ok hx) (by omega) (by omega)

def minF (m : ModT) (c : List Int) : List Int := walkF m c 1024 (List.replicate m.1.length 0) []
def minB' (m : ModT) (c : List Int) : Bool × List Int := bif modB m && objB m c then (!(minF m c).isEmpty, minF m c) else (false, [])

theorem spec_l6Next_eq {m : ModT} {x : List Int} (hm : modB m = true) (hx : cellsB m x = true) : spec_l6Next m x = some (nextF m x) := by
  obtain ⟨x1, x2⟩ := cells_dig hx
  obtain ⟨m1, m2, m3⟩ := modB_len hm
  unfold spec_l6Next nextF
  rw [List.nil_append, rq_pos (by simp only [List.length_nil, bound]; omega), rq_i64 (by omega) (by omega)]
  refine loop_fn (f := spec_l6Next_l1 m) (fun s : Int × List Int => ∃ n : Nat, s.1 = (n : Int) - 1 ∧ n ≤ x.length ∧ s.2.length = x.length ∧ Dig m.1 s.2) (fun s => (s.1 + 1).toNat) (fun s => odoF m.1 (s.1 + 1).toNat s.2) ?_ _ ⟨x.length, rfl, Nat.le_refl _, rfl, x2⟩ |>.trans ?_
  · rintro ⟨s, y⟩ ⟨n, hs, hn, hl, hd⟩
    dsimp only at hs hl hd ⊢
    subst hs
    unfold spec_l6Next_l1
    dsimp only
    cases n with
    | zero =>
      right
      rw [cdec_neg (by omega)]
      rfl
    | succ n =>
      have e : (((n + 1 : Nat) : Int) - 1).toNat = n := by omega
      have e' : (((n + 1 : Nat) : Int) - 1 + 1).toNat = n + 1 := by omega
      have hz := dig_three hm hd n
      rw [cdec_pos (by omega), rq_pos ⟨by omega, by omega⟩, rq_pos ⟨by omega, by omega⟩, e, e', odo_succ]
      cases hq : decide (y.getD n 0 < m.1.getD n 0) with
      | true =>
        right
        rw [ctt, ctt, rq_pos ⟨by omega, by omega⟩, rq_i64 (by omega) (by omega), rq_pos ⟨by omega, by omega⟩]
      | false =>
        left
        rw [cff, cff, rq_pos ⟨by omega, by omega⟩, rq_i64 (by omega) (by omega)]
        refine ⟨_, rfl, ⟨n, by (try dsimp only) <;> omega, by omega, by (try dsimp only) <;> (rw [List.length_set]; exact hl), dig_set hd (by omega) (by have := hd n; omega)⟩, by (try dsimp only) <;> omega, ?_⟩
        dsimp only
        rw [show (((n + 1 : Nat) : Int) - 1 - 1 + 1).toNat = n by omega]
  · dsimp only
    rw [show ((x.length : Int) - 1 + 1).toNat = x.length by omega]

theorem impl_next_eq {m : ModT} {x : List Int} (hm : modB m = true) (hx : cellsB m x = true) (r : Bool × List Int) :
    loop (impl_each__impl_MinimizeModel_1__rR0r_l2 m.1 r) (((x.length : Int) - 1), x) = some (bif (nextF m x).1 then .inl ((nextF m x).2, r.2) else .inr r.2) := by
  obtain ⟨x1, x2⟩ := cells_dig hx
  obtain ⟨m1, m2, m3⟩ := modB_len hm
  unfold nextF
  refine loop_fn (f := impl_each__impl_MinimizeModel_1__rR0r_l2 m.1 r) (fun s : Int × List Int => ∃ n : Nat, s.1 = (n : Int) - 1 ∧ n ≤ x.length ∧ s.2.length = x.length ∧ Dig m.1 s.2) (fun s => (s.1 + 1).toNat)
    (fun s => bif (odoF m.1 (s.1 + 1).toNat s.2).1 then .inl ((odoF m.1 (s.1 + 1).toNat s.2).2, r.2) else .inr r.2) ?_ _ ⟨x.length, rfl, Nat.le_refl _, rfl, x2⟩ |>.trans ?_
  · rintro ⟨s, y⟩ ⟨n, hs, hn, hl, hd⟩
    dsimp only at hs hl hd ⊢
    subst hs
    unfold impl_each__impl_MinimizeModel_1__rR0r_l2 impl_each__impl_MinimizeModel_1__rR0r_j1
    dsimp only
    cases n with
    | zero =>
      right
      rw [cdec_neg (by omega), cdec_pos (by omega)]
      rfl
    | succ n =>
      have e : (((n + 1 : Nat) : Int) - 1).toNat = n := by omega
      have e' : (((n + 1 : Nat) : Int) - 1 + 1).toNat = n + 1 := by omega
      have hz := dig_three hm hd n
      have hdn := hd n
      rw [cdec_pos (by omega), rq_pos ⟨by omega, by omega⟩, rq_pos ⟨by omega, by omega⟩, e, e', odo_succ]
      by_cases hq : y.getD n 0 = m.1.getD n 0
      · left
        rw [cbeq_pos hq, decide_eq_false (show ¬ y.getD n 0 < m.1.getD n 0 by omega), cff, rq_pos ⟨by omega, by omega⟩, rq_i64 (by omega) (by omega)]
        refine ⟨_, rfl, ⟨n, by (try dsimp only) <;> omega, by omega, by (try dsimp only) <;> (rw [List.length_set]; exact hl), dig_set hd (by omega) (by omega)⟩, by (try dsimp only) <;> omega, ?_⟩
        dsimp only
        rw [show (((n + 1 : Nat) : Int) - 1 - 1 + 1).toNat = n by omega]
      · right
        rw [cbeq_neg hq, decide_eq_true (show y.getD n 0 < m.1.getD n 0 by omega), ctt, cdec_neg (by omega), rq_pos ⟨by omega, by omega⟩, rq_i64 (by omega) (by omega), rq_pos ⟨by omega, by omega⟩]
        rfl
  · dsimp only
    rw [show ((x.length : Int) - 1 + 1).toNat = x.length by omega]

theorem Clone9_eq {s : List Int} (h : s.length ≤ 1048576) : slices_Clone_int s = some s := by
  unfold slices_Clone_int
  refine nt_pos (fun e => by rw [e]) ?_
  rw [rq_pos (by simp only [List.length_nil, bound]; omega), List.nil_append]

/-- What the search has found so far. -/
def BestOk (m : ModT) (b : List Int) : Prop := b = [] ∨ cellsB m b = true

theorem better_ok {m : ModT} {c b x : List Int} (hb : BestOk m b) (hx : cellsB m x = true) : BestOk m (betterB m c b x) := by
  unfold betterB
  cases solvesB m x && (b.isEmpty || decide (valZ c x x.length < valZ c b b.length)) with
  | true => exact Or.inr hx
  | false => exact hb

theorem impl_told_eq {m : ModT} {c b x : List Int} (h : smallM m) (hm : modB m = true) (hc : objB m c = true) (hx : cellsB m x = true) (hb : BestOk m b) : impl_MinimizeModel_1__rRNrss m c x b = some (true, betterB m c b x) := by
  obtain ⟨t1, t2, t3, t4⟩ := term_bound hm hc hx
  obtain ⟨m1, m2, m3⟩ := modB_len hm
  have hne : x ≠ [] := by rintro rfl; simp at t1; omega
  unfold impl_MinimizeModel_1__rRNrss betterB
  rw [impl_solves_eq h hm hx, bind_s]
  cases solvesB m x with
  | false => rw [cff, Bool.false_and, cff]
  | true =>
    rw [ctt, Bool.true_and]
    rcases hb with rfl | hb
    · rw [show ([] : List Int).isEmpty = true from rfl, ctt, Bool.true_or, ctt, Clone9_eq (by omega), bind_s, rq_pos hne]
    · obtain ⟨u1, u2, u3, u4⟩ := term_bound hm hc hb
      have hbe : b.isEmpty = false := by
        cases b with
        | nil => simp at u1; omega
        | cons y z => rfl
      rw [hbe, cff, Bool.false_or, impl_valueOf_eq (by omega) (by omega) t4, bind_s, impl_valueOf_eq (by omega) (by omega) u4, bind_s]
      cases decide (valZ c x x.length < valZ c b b.length) with
      | true => rw [ctt, ctt, Clone9_eq (by omega), bind_s, rq_pos hne]
      | false => rw [cff, cff]

theorem zero_cells {m : ModT} (hm : modB m = true) : cellsB m (List.replicate m.1.length 0) = true := by
  refine dig_cells List.length_replicate (fun i => ?_)
  have e : (List.replicate m.1.length (0 : Int)).getD i 0 = 0 := by
    rw [List.getD_eq_getElem?_getD]
    rcases Nat.lt_or_ge i m.1.length with h | h
    · rw [List.getElem?_replicate_of_lt h]; rfl
    · rw [List.getElem?_eq_none (by rw [List.length_replicate]; exact h)]; rfl
  rw [e]
  rcases Nat.lt_or_ge i m.1.length with h | h
  · have := modB_sz hm h
    omega
  · rw [List.getD_eq_getElem?_getD, List.getElem?_eq_none h]
    decide

theorem walk_step {m : ModT} {c x b : List Int} (hm : modB m = true) (hx : cellsB m x = true) (hq : (nextF m x).1 = true) : walkF m c 1024 (nextF m x).2 (betterB m c b x) = walkF m c 1024 x b := by
  have h1 : walkF m c 1024 x b = bif (nextF m x).1 then walkF m c 1023 (nextF m x).2 (betterB m c b x) else betterB m c b x := rfl
  have h2 := next_mu hm hx hq
  have h3 : muF x ≤ 1024 := by unfold muF; omega
  rw [h1, hq, ctt]
  exact walk_same hm _ _ _ _ (next_ok hx) (by omega) (by omega)

theorem walk_last {m : ModT} {c x b : List Int} (hq : (nextF m x).1 = false) : walkF m c 1024 x b = betterB m c b x := by
  have h1 : walkF m c 1024 x b = bif (nextF m x).1 then walkF m c 1023 (nextF m x).2 (betterB m c b x) else betterB m c b x := rfl
  rw [h1, hq, cff]

theorem impl_MinimizeModel_eq (m : ModT) (c : List Int) (h : smallM m) (hc : c.length ≤ 1048576) : impl_MinimizeModel m c = some (minB' m c) := by
  unfold impl_MinimizeModel minB'
  rw [impl_ModelValid_eq m h, bind_s]
  cases hm : modB m with
  | false => rw [cnf, Bool.false_and, cff]
  | true =>
    obtain ⟨m1, m2, m3⟩ := modB_len hm
    rw [cnt, Bool.true_and, impl_isObjective_eq m c hc, bind_s]
    cases ho : objB m c with
    | false => rw [cnf, cff]
    | true =>
      have hz := zero_cells hm
      rw [cnt, ctt, rq_pos ⟨by omega, by simp only [bound]; omega, rfl⟩, Int.toNat_natCast]
      have key : impl_each__impl_MinimizeModel_1__rR0r m.1 (List.replicate m.1.length 0) m c = some (minF m c) := by
        unfold impl_each__impl_MinimizeModel_1__rR0r minF
        rw [Clone9_eq (by rw [List.length_replicate]; omega), bind_s]
        refine loop_fn (f := impl_each__impl_MinimizeModel_1__rR0r_l1 m.1 m c) (fun s : List Int × List Int => cellsB m s.1 = true ∧ BestOk m s.2) (fun s => muF s.1) (fun s => walkF m c 1024 s.1 s.2) ?_ _ ⟨hz, Or.inl rfl⟩
        rintro ⟨x, b⟩ ⟨hx, hb⟩
        dsimp only at hx hb ⊢
        obtain ⟨x1, x2⟩ := cells_dig hx
        unfold impl_each__impl_MinimizeModel_1__rR0r_l1
        dsimp only
        rw [impl_told_eq h hm ho hx hb, bind_s, ctt, rq_i64 (by omega) (by omega), impl_next_eq hm hx]
        cases hq : (nextF m x).1 with
        | true =>
          left
          exact ⟨_, rfl, ⟨next_ok hx, better_ok hb hx⟩, next_mu hm hx hq, walk_step hm hx hq⟩
        | false =>
          right
          rw [cff, walk_last hq]
      rw [key, bind_s]
      rfl

theorem spec_MinimizeModel_eq (m : ModT) (c : List Int) (h : smallM m) (hc : c.length ≤ 1048576) : spec_MinimizeModel m c = some (minB' m c) := by
  unfold spec_MinimizeModel minB'
  rw [spec_l9Coefs_eq m c h hc, bind_s]
  cases hm : modB m with
  | false => rw [Bool.false_and, cnf, cff]
  | true =>
    obtain ⟨m1, m2, m3⟩ := modB_len hm
    rw [Bool.true_and]
    cases ho : objB m c with
    | false => rw [cnf, cff]
    | true =>
      have hz := zero_cells hm
      rw [cnt, ctt, rq_pos ⟨by omega, by simp only [bound]; omega, rfl⟩, Int.toNat_natCast]
      refine loop_fn (f := spec_MinimizeModel_l1 m c) (fun s : Bool × Bool × List Int × List Int => s.1 = !s.2.2.1.isEmpty ∧ cellsB m s.2.2.2 = true ∧ BestOk m s.2.2.1) (fun s => bif s.2.1 then muF s.2.2.2 else 0)
        (fun s => bif s.2.1 then (!(walkF m c 1024 s.2.2.2 s.2.2.1).isEmpty, walkF m c 1024 s.2.2.2 s.2.2.1) else (s.1, s.2.2.1)) ?_ _ ⟨rfl, hz, Or.inl rfl⟩
      rintro ⟨f, mo, b, x⟩ ⟨hf, hx, hb⟩
      dsimp only at hf hx hb ⊢
      subst hf
      unfold spec_MinimizeModel_l1
      dsimp only
      cases mo with
      | false =>
        right
        rw [cff, cff]
        rfl
      | true =>
        left
        have hmu := (mu_pos hm hx).1
        obtain ⟨t1, t2, t3, t4⟩ := term_bound hm ho hx
        have hxe : x.isEmpty = false := by
          cases x with
          | nil => simp at t1; omega
          | cons y z => rfl
        have hbk := better_ok (c := c) hb hx
        have hj : spec_MinimizeModel_j2 m x (!(betterB m c b x).isEmpty, betterB m c b x) = some (.inl (!(betterB m c b x).isEmpty, (nextF m x).1, betterB m c b x, (nextF m x).2)) := by
          unfold spec_MinimizeModel_j2
          dsimp only
          rw [spec_l6Next_eq hm hx, bind_s]
        have hall : (cond true ((spec_l6Solves m x).bind fun r6_ =>
            cond r6_ (cond (!(!b.isEmpty)) (rq (([] : List Int).length + x.length ≤ bound) <| spec_MinimizeModel_j2 m x (true, (([] : List Int) ++ x)))
              ((spec_l9Value c x).bind fun r7_ => (spec_l9Value c b).bind fun r8_ => cond (decide (r7_ < r8_)) (rq (([] : List Int).length + x.length ≤ bound) <| spec_MinimizeModel_j2 m x (true, (([] : List Int) ++ x))) (spec_MinimizeModel_j2 m x (!b.isEmpty, b))))
              (spec_MinimizeModel_j2 m x (!b.isEmpty, b))) (up (spec_MinimizeModel_j1 (!b.isEmpty, b)))) = spec_MinimizeModel_j2 m x (!(betterB m c b x).isEmpty, betterB m c b x) := by
          rw [ctt, spec_solves_eq h hm hx, bind_s]
          unfold betterB
          cases solvesB m x with
          | false => rw [cff, Bool.false_and, cff]
          | true =>
            rw [ctt, Bool.true_and]
            rcases hb with rfl | hb
            · rw [show ([] : List Int).isEmpty = true from rfl, Bool.not_true, Bool.not_false, ctt, Bool.true_or, ctt, rq_pos (by simp only [List.length_nil, bound]; omega), List.nil_append, hxe, Bool.not_false]
            · obtain ⟨u1, u2, u3, u4⟩ := term_bound hm ho hb
              have hbe : b.isEmpty = false := by
                cases b with
                | nil => simp at u1; omega
                | cons y z => rfl
              rw [hbe, Bool.not_false, Bool.not_true, cff, Bool.false_or, spec_l9Value_eq (by omega) (by omega) t4, bind_s, spec_l9Value_eq (by omega) (by omega) u4, bind_s]
              cases decide (valZ c x x.length < valZ c b b.length) with
              | true => rw [ctt, ctt, rq_pos (by simp only [List.length_nil, bound]; omega), List.nil_append, hxe, Bool.not_false]
              | false => rw [cff, cff, hbe, Bool.not_false]
        refine ⟨_, hall.trans hj, ⟨rfl, next_ok hx, hbk⟩, ?_, ?_⟩
        · dsimp only
          rw [ctt]
          cases hq : (nextF m x).1 with
          | true => rw [ctt]; exact next_mu hm hx hq
          | false => rw [cff]; omega
        · dsimp only
          rw [ctt]
          cases hq : (nextF m x).1 with
          | true => rw [ctt, walk_step hm hx hq]
          | false => rw [cff, walk_last hq]

theorem minB_len (m : ModT) (c : List Int) : (minB' m c).2.length ≤ 1048576 := by
  unfold minB'
  cases hq : modB m && objB m c with
  | false => rw [cff]; simp
  | true =>
    rw [ctt]
    simp only [Bool.and_eq_true] at hq
    obtain ⟨hm, ho⟩ := hq
    obtain ⟨m1, m2, m3⟩ := modB_len hm
    have hz := zero_cells hm
    dsimp only
    unfold minF
    have key : ∀ n x b, cellsB m x = true → BestOk m b → BestOk m (walkF m c n x b) := by
      intro n
      induction n with
      | zero => intro x b hx hb; exact better_ok hb hx
      | succ n ih =>
        intro x b hx hb
        unfold walkF
        cases (nextF m x).1 with
        | true => rw [ctt]; exact ih _ _ (next_ok hx) (better_ok hb hx)
        | false => rw [cff]; exact better_ok hb hx
    rcases key 1024 _ [] hz (Or.inl rfl) with e | e
    · rw [e]; simp
    · have := (cells_dig e).1
      omega

end Go.AE.Y
