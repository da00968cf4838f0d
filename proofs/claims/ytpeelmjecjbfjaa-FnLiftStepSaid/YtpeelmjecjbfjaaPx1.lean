/-
  Plain laws of the models, in one text. No conditions.
-/
import Derived.Test.YtpeelmjecjbfjaaAEx3
import Derived.Test.YtpeelmjecjbfjaaR4M
namespace Go.AE

theorem rq_pos {α : Type} {p : Prop} [Decidable p] {m : Option α} (h : p) : rq p m = m := if_pos h

theorem nt_pos {α : Type} {p : Prop} {m m' : Option α} {r : α} (h1 : p → m = some r) (h2 : m' = some r) : nt p m m' = some r := by
  unfold nt
  split
  · rename_i hp
    rw [h1 hp, h2, if_pos rfl]
  · exact h2

/-- A loop with an invariant and a measure: what it gives is what T tells of each state on the way. -/
theorem loop_fn {S R : Type} {f : S → Option (S ⊕ R)} (Inv : S → Prop) (μ : S → Nat) (T : S → R)
    (step : ∀ s, Inv s → (∃ s', f s = some (.inl s') ∧ Inv s' ∧ μ s' < μ s ∧ T s' = T s) ∨ f s = some (.inr (T s))) : ∀ s, Inv s → loop f s = some (T s) := by
  have key : ∀ n s, μ s ≤ n → Inv s → loop f s = some (T s) := by
    intro n
    induction n with
    | zero =>
      intro s hn hs
      rw [loop_eq]
      rcases step s hs with ⟨s', h1, _, h3, _⟩ | h1
      · omega
      · rw [h1]; rfl
    | succ n ih =>
      intro s hn hs
      rw [loop_eq]
      rcases step s hs with ⟨s', h1, h2, h3, h4⟩ | h1
      · rw [h1, ← h4]; exact ih s' (by omega) h2
      · rw [h1]; rfl
  exact fun s => key _ s (Nat.le_refl _)

/-- A loop with an invariant and a measure, and what holds of its answer. -/
theorem loop_ex {S R : Type} {f : S → Option (S ⊕ R)} (Inv : S → Prop) (μ : S → Nat) (Q : R → Prop)
    (step : ∀ s, Inv s → (∃ s', f s = some (.inl s') ∧ Inv s' ∧ μ s' < μ s) ∨ (∃ r, f s = some (.inr r) ∧ Q r)) : ∀ s, Inv s → ∃ r, loop f s = some r ∧ Q r := by
  have key : ∀ n s, μ s ≤ n → Inv s → ∃ r, loop f s = some r ∧ Q r := by
    intro n
    induction n with
    | zero =>
      intro s hn hs
      rw [loop_eq]
      rcases step s hs with ⟨s', h1, _, h3⟩ | ⟨r, h1, h2⟩
      · omega
      · rw [h1]; exact ⟨r, rfl, h2⟩
    | succ n ih =>
      intro s hn hs
      rw [loop_eq]
      rcases step s hs with ⟨s', h1, h2, h3⟩ | ⟨r, h1, h2⟩
      · rw [h1]; exact ih s' (by omega) h2
      · rw [h1]; exact ⟨r, rfl, h2⟩
  exact fun s => key _ s (Nat.le_refl _)

/-- Counting up: all of the first n, or the first that fails. -/
theorem loop_all {R : Type} {f : Int → Option (Int ⊕ R)} (n : Nat) (p : Nat → Bool) (bad : R) (fin : R)
    (h : ∀ i : Nat, i < n → (∀ j, j < i → p j = true) → f i = some (bif p i then .inl ((i : Int) + 1) else .inr bad)) (hn : f n = some (.inr fin)) : loop f 0 = some (bif (List.range n).all p then fin else bad) := by
  have key : ∀ k i : Nat, i + k = n → (∀ j, j < i → p j = true) → loop f (i : Int) = some (bif (List.range' i k).all p then fin else bad) := by
    intro k
    induction k with
    | zero =>
      intro i hi _
      have : i = n := by omega
      subst this
      rw [loop_eq, hn]
      simp
    | succ k ih =>
      intro i hi hpre
      rw [loop_eq, h i (by omega) hpre]
      cases hp : p i with
      | true =>
        have := ih (i + 1) (by omega) (fun j hj => by
          rcases Nat.lt_or_ge j i with h1 | h1
          · exact hpre j h1
          · have : j = i := by omega
            subst this; exact hp)
        simp only [Option.bind_some, cond_true]
        rw [show ((i : Int) + 1) = ((i + 1 : Nat) : Int) by omega, this]
        simp [List.range'_succ, hp]
      | false => simp [List.range'_succ, hp]
  have := key n 0 (by omega) (fun j hj => by omega)
  simpa [List.range_eq_range'] using this

/-- The first that p holds of. -/
theorem loop_find {α : Type} {f : Int → Option (Int ⊕ Int)} (l : List α) (d : α) (p : α → Bool) (h : ∀ i : Nat, i < l.length → f i = some (bif p (l.getD i d) then .inr (i : Int) else .inl ((i : Int) + 1))) (hn : f l.length = some (.inr (-1))) :
    ∃ r, loop f 0 = some r ∧ decide (0 ≤ r) = l.any p := by
  have key : ∀ k i : Nat, i + k = l.length → ∃ r, loop f (i : Int) = some r ∧ decide (0 ≤ r) = (l.drop i).any p := by
    intro k
    induction k with
    | zero =>
      intro i hi
      have : i = l.length := by omega
      subst this
      rw [loop_eq, hn]
      exact ⟨-1, rfl, by simp⟩
    | succ k ih =>
      intro i hi
      have hi' : i < l.length := by omega
      rw [loop_eq, h i hi', List.drop_eq_getElem_cons hi', List.any_cons]
      have e : l.getD i d = l[i] := by rw [List.getD_eq_getElem?_getD, List.getElem?_eq_getElem hi']; rfl
      rw [e]
      cases hp : p l[i] with
      | true => exact ⟨i, rfl, by simp⟩
      | false =>
        obtain ⟨r, h1, h2⟩ := ih (i + 1) (by omega)
        refine ⟨r, ?_, by simpa using h2⟩
        simp only [cond_false, Option.bind_some]
        rw [show ((i : Int) + 1) = ((i + 1 : Nat) : Int) by omega]
        exact h1
  exact key l.length 0 (by omega)

theorem getD_map {α β : Type} (l : List α) (f : α → β) (i : Nat) (d : α) (d' : β) (h : i < l.length) : (l.map f).getD i d' = f (l.getD i d) := by
  simp [List.getD_eq_getElem?_getD, h]

theorem rq_i64 {α : Type} {n : Int} {m : Option α} (h1 : -9223372036854775808 ≤ n) (h2 : n ≤ 9223372036854775807) : rq (i64 n) m = m := if_pos ⟨h1, h2⟩
theorem cdec_pos {α : Type} {p : Prop} [Decidable p] {m m' : α} (h : p) : cond (decide p) m m' = m := by rw [decide_eq_true h]; rfl
theorem cdec_neg {α : Type} {p : Prop} [Decidable p] {m m' : α} (h : ¬ p) : cond (decide p) m m' = m' := by rw [decide_eq_false h]; rfl
theorem cbne_pos {α : Type} {a b : Int} {m m' : α} (h : a ≠ b) : cond (a != b) m m' = m := by rw [bne_iff_ne.2 h]; rfl
theorem cbne_neg {α : Type} {a b : Int} {m m' : α} (h : a = b) : cond (a != b) m m' = m' := by subst h; simp
theorem cbeq_pos {α : Type} {a b : Int} {m m' : α} (h : a = b) : cond (a == b) m m' = m := by subst h; simp
theorem cbeq_neg {α : Type} {a b : Int} {m m' : α} (h : a ≠ b) : cond (a == b) m m' = m' := by rw [beq_eq_false_iff_ne.2 h]; rfl

/-- Counting up, the count behind the state that grows. -/
theorem loop_foldr {A R : Type} {f : A × Int → Option ((A × Int) ⊕ R)} (n : Nat) (Inv : Nat → A → Prop) (g : Nat → A → A) (fin : A → R) (a0 : A) (h0 : Inv 0 a0)
    (h : ∀ (i : Nat) a, i < n → Inv i a → f (a, i) = some (.inl (g i a, (i : Int) + 1)) ∧ Inv (i + 1) (g i a)) (hn : ∀ a, Inv n a → f (a, n) = some (.inr (fin a))) :
    loop f (a0, 0) = some (fin ((List.range n).foldl (fun a i => g i a) a0)) ∧ Inv n ((List.range n).foldl (fun a i => g i a) a0) := by
  have key : ∀ (k i : Nat) (a : A), i + k = n → Inv i a → loop f (a, (i : Int)) = some (fin ((List.range' i k).foldl (fun a i => g i a) a)) ∧ Inv n ((List.range' i k).foldl (fun a i => g i a) a) := by
    intro k
    induction k with
    | zero =>
      intro i a hi ha
      have : i = n := by omega
      subst this
      rw [loop_eq, hn a ha]
      exact ⟨rfl, ha⟩
    | succ k ih =>
      intro i a hi ha
      obtain ⟨h1, h2⟩ := h i a (by omega) ha
      rw [loop_eq, h1]
      have := ih (i + 1) (g i a) (by omega) h2
      simp only [Option.bind_some]
      rw [show ((i : Int) + 1) = ((i + 1 : Nat) : Int) by omega]
      simpa [List.range'_succ] using this
  have := key n 0 a0 (by omega) h0
  simpa [List.range_eq_range'] using this

/-- A fold over places is a fold over elements. -/
theorem foldl_range {α A : Type} (l : List α) (d : α) (g : A → α → A) (a : A) : (List.range l.length).foldl (fun a i => g a (l.getD i d)) a = l.foldl g a := by
  have : l = (List.range l.length).map (fun i => l.getD i d) := by
    apply List.ext_getElem
    · simp
    · intro i h1 h2
      simp [List.getD_eq_getElem?_getD, h1]
  conv => rhs; rw [this]
  rw [List.foldl_map]

/-- Not by computation: so that the kernel need not compare what stands behind. -/
theorem cnt {α : Type} {a b : α} : cond (!true) a b = b := Eq.trans (congrArg (fun x => cond x a b) (Bool.not_true)) (Eq.trans rfl (id rfl))
theorem cnf {α : Type} {a b : α} : cond (!false) a b = a := Eq.trans (congrArg (fun x => cond x a b) (Bool.not_false)) (Eq.trans rfl (id rfl))
theorem ctt {α : Type} {a b : α} : cond true a b = a := Eq.trans rfl (id rfl)
theorem cff {α : Type} {a b : α} : cond false a b = b := Eq.trans rfl (id rfl)
theorem bind_s {α β : Type} {a : α} {f : α → Option β} : (some a).bind f = f a := Eq.trans (Option.bind_some a f) (id rfl)
theorem tand {b : Bool} : (true && b) = b := Eq.trans (Bool.true_and b) (id rfl)

end Go.AE
namespace Go.AE.Y
open Go Go.AE

/-- A literal. -/
def isLit (n : Int) : Bool := n != 0 && (decide (-12 ≤ n) && decide (n ≤ 12))

theorem isLit_iff {n : Int} : isLit n = true ↔ n ≠ 0 ∧ -12 ≤ n ∧ n ≤ 12 := by simp [isLit]
theorem impl_isLiteral_eq (n : Int) : impl_isLiteral n = some (isLit n) := by
  unfold impl_isLiteral impl_within isLit
  cases (n != 0) <;> cases (decide (-12 ≤ n)) <;> rfl

theorem spec_l1Lit_eq (n : Int) : spec_l1Lit n = some (isLit n) := by
  unfold spec_l1Lit isLit
  cases (n != 0) <;> cases (decide (-12 ≤ n)) <;> rfl

/-- The variable of a literal. -/
def vof (n : Int) : Int := max n (-n)

theorem impl_variableOf_eq {n : Int} (h : -13 ≤ n ∧ n ≤ 13) : impl_variableOf n = some (vof n) := by
  unfold impl_variableOf vof
  simp (disch := omega) only [rq_i64, Int.zero_sub]

theorem spec_l1Abs_eq {n : Int} (h : -13 ≤ n ∧ n ≤ 13) : spec_l1Abs n = some (vof n) := by
  unfold spec_l1Abs vof
  by_cases h1 : n < 0
  · simp (disch := omega) only [cdec_pos, rq_i64]
    congr 1; omega
  · simp (disch := omega) only [cdec_neg]
    congr 1; omega

/-- A cube: literals with ascending variables. -/
def cubeAt (c : List Int) (i : Nat) : Bool := isLit (c.getD i 0) && (i == 0 || decide (vof (c.getD (i - 1) 0) < vof (c.getD i 0)))
def cubeB (c : List Int) : Bool := (List.range c.length).all (cubeAt c) && decide (c.length ≤ 4)

theorem cubeAt_lit {c : List Int} {i : Nat} (h : cubeAt c i = true) : isLit (c.getD i 0) = true := by
  unfold cubeAt at h; simp only [Bool.and_eq_true] at h; exact h.1

theorem impl_isCube_eq (c : List Int) (h : c.length ≤ 4000000000) : impl_isCube c = some (cubeB c) := by
  unfold impl_isCube cubeB
  rw [loop_all c.length (cubeAt c) false (decide (c.length ≤ 4))]
  · cases (List.range c.length).all (cubeAt c) <;> rfl
  · intro i hi hpre
    unfold impl_isCube_l1 cubeAt
    simp (disch := omega) only [cdec_pos, rq_pos, impl_isLiteral_eq, Option.bind_some, Int.toNat_natCast]
    cases hl : isLit (c.getD i 0) with
    | false => rfl
    | true =>
      have hl' := isLit_iff.1 hl
      by_cases h0 : i = 0
      · subst h0
        simp (disch := omega) only [cdec_neg, Bool.not_true, cond_false, rq_i64, Option.bind_some]
        rfl
      · have hp1 := isLit_iff.1 (cubeAt_lit (hpre (i - 1) (by omega)))
        have e1 : ((i : Int) - 1).toNat = i - 1 := by omega
        simp (disch := omega) only [cdec_pos, Bool.not_true, cond_false, rq_i64, rq_pos, Option.bind_some, e1, impl_variableOf_eq]
        rw [show (i == 0) = false by simpa using h0]
        by_cases hv : vof (c.getD (i - 1) 0) < vof (c.getD i 0)
        · simp (disch := omega) only [cdec_neg, decide_eq_true hv]
          rfl
        · simp (disch := omega) only [cdec_pos, decide_eq_false hv]
          rfl
  · unfold impl_isCube_l1
    simp (disch := omega) only [cdec_neg]
    rw [decide_eq_decide.2 (show ((c.length : Int) ≤ 4 ↔ c.length ≤ 4) by omega)]

theorem getD_mem {α : Type} {l : List α} {i : Nat} {d : α} (h : i < l.length) : l.getD i d ∈ l := by
  rw [List.getD_eq_getElem?_getD, List.getElem?_eq_getElem h]; exact List.getElem_mem h

theorem spec_l12Vars_eq (c : List Int) (h : c.length ≤ 4000000000) :
    spec_l12Vars c = some ((List.range c.length).all (fun i => (decide (1 ≤ c.getD i 0) && decide (c.getD i 0 ≤ 12)) && (i == 0 || decide (c.getD (i - 1) 0 < c.getD i 0))) && decide (c.length ≤ 4)) := by
  unfold spec_l12Vars
  rw [loop_all c.length (fun i => (decide (1 ≤ c.getD i 0) && decide (c.getD i 0 ≤ 12)) && (i == 0 || decide (c.getD (i - 1) 0 < c.getD i 0))) false (decide (c.length ≤ 4))]
  · cases (List.range c.length).all _ <;> rfl
  · intro i hi _
    unfold spec_l12Vars_l1
    simp (disch := omega) only [cdec_pos, rq_pos, Int.toNat_natCast]
    by_cases h1 : 1 ≤ c.getD i 0
    · by_cases h2 : c.getD i 0 ≤ 12
      · simp (disch := omega) only [cdec_neg, decide_eq_true h1, decide_eq_true h2]
        by_cases h0 : i = 0
        · subst h0
          simp (disch := omega) only [cdec_neg, rq_i64]
          rfl
        · have e1 : ((i : Int) - 1).toNat = i - 1 := by omega
          rw [show (i == 0) = false by simpa using h0]
          simp (disch := omega) only [cdec_pos, rq_i64, rq_pos, e1]
          by_cases hv : c.getD (i - 1) 0 < c.getD i 0
          · simp (disch := omega) only [cdec_neg, decide_eq_true hv]
            rfl
          · simp (disch := omega) only [cdec_pos, decide_eq_false hv]
            rfl
      · simp (disch := omega) only [cdec_neg, cdec_pos, decide_eq_true h1, decide_eq_false h2]
        rfl
    · simp (disch := omega) only [cdec_pos, decide_eq_false h1]
      rfl
  · unfold spec_l12Vars_l1
    simp (disch := omega) only [cdec_neg]
    rw [decide_eq_decide.2 (show ((c.length : Int) ≤ 4 ↔ c.length ≤ 4) by omega)]

end Go.AE.Y
namespace Go.AE.Y
open Go Go.AE

theorem spec_l12Cube_eq (c : List Int) (h : c.length ≤ 4000000000) : spec_l12Cube c = some (cubeB c) := by
  unfold spec_l12Cube
  refine loop_fn (fun s : Int × List Int => ∃ i : Nat, s.1 = i ∧ i ≤ c.length ∧ s.2 = (c.take i).map vof ∧ ∀ j, j < i → isLit (c.getD j 0) = true) (fun s => c.length - s.1.toNat) (fun _ => cubeB c) ?_ _ ⟨0, rfl, Nat.zero_le _, rfl, fun j hj => by omega⟩
  rintro ⟨s, vs⟩ ⟨i, rfl, hi, hv, hl⟩
  dsimp only at hv ⊢
  unfold spec_l12Cube_l1
  rcases Nat.lt_or_ge i c.length with h1 | h1
  · simp (disch := omega) only [cdec_pos, rq_pos, spec_l1Lit_eq, Option.bind_some, Int.toNat_natCast]
    cases hq : isLit (c.getD i 0) with
    | false =>
      right
      have : cubeB c = false := by
        unfold cubeB
        rw [List.all_eq_false.2 ⟨i, List.mem_range.2 h1, by unfold cubeAt; rw [hq]; simp⟩]
        rfl
      rw [this]; rfl
    | true =>
      left
      have hq' := isLit_iff.1 hq
      have hlen : vs.length = i := by rw [hv]; simp; omega
      simp (disch := omega) only [Bool.not_true, cond_false, spec_l1Abs_eq, Option.bind_some, rq_i64]
      rw [rq_pos (by rw [hlen]; simp [bound]; omega)]
      refine ⟨_, rfl, ⟨i + 1, by simp, by omega, ?_, ?_⟩, by dsimp only; omega, trivial⟩
      · dsimp only
        rw [hv, List.take_succ_eq_append_getElem h1, List.map_append]
        congr 2
        simp [List.getD_eq_getElem?_getD, h1]
      · intro j hj
        rcases Nat.lt_or_ge j i with h2 | h2
        · exact hl j h2
        · have : j = i := by omega
          subst this; exact hq
  · right
    have : i = c.length := by omega
    subst this
    rw [List.take_length] at hv
    subst hv
    simp (disch := omega) only [cdec_neg]
    unfold spec_l12Cube_j1
    rw [spec_l12Vars_eq _ (by simpa using h)]
    simp only [Option.bind_some, up, Option.map_some, List.length_map]
    congr 2
    unfold cubeB
    congr 1
    rw [Bool.eq_iff_iff, List.all_eq_true, List.all_eq_true]
    have key : ∀ j, j ∈ List.range c.length → (((decide (1 ≤ (c.map vof).getD j 0) && decide ((c.map vof).getD j 0 ≤ 12)) && (j == 0 || decide ((c.map vof).getD (j - 1) 0 < (c.map vof).getD j 0))) = cubeAt c j) := by
      intro j hj
      have hj := List.mem_range.1 hj
      have hq := hl j hj
      have hq' := isLit_iff.1 hq
      unfold cubeAt
      rw [getD_map c vof j 0 0 hj, getD_map c vof (j - 1) 0 0 (by omega), hq]
      have e1 : 1 ≤ vof (c.getD j 0) := by unfold vof; omega
      have e2 : vof (c.getD j 0) ≤ 12 := by unfold vof; omega
      rw [decide_eq_true e1, decide_eq_true e2]
      rfl
    exact ⟨fun q j hj => by rw [← key j hj]; exact q j hj, fun q j hj => by rw [key j hj]; exact q j hj⟩

/-- A literal's truth. -/
def litB (v : List Bool) (l : Int) : Bool := v.getD (vof l - 1).toNat false == decide (0 < l)
def cubeHoldsB (c : List Int) (v : List Bool) : Bool := cubeB c && (decide (v.length = 12) && c.all (litB v))

theorem cubeB_lits {c : List Int} (h : cubeB c = true) : ∀ x ∈ c, x ≠ 0 ∧ -12 ≤ x ∧ x ≤ 12 := by
  intro x hx
  unfold cubeB at h
  simp only [Bool.and_eq_true, List.all_eq_true] at h
  obtain ⟨i, hi, rfl⟩ := List.mem_iff_getElem.1 hx
  have := isLit_iff.1 (cubeAt_lit (h.1 i (List.mem_range.2 hi)))
  simpa [List.getD_eq_getElem?_getD, hi] using this

theorem impl_holds_eq {l : Int} {v : List Bool} (h : l ≠ 0 ∧ -12 ≤ l ∧ l ≤ 12) (hv : v.length = 12) : impl_holds l v = some (litB v l) := by
  have e1 : 1 ≤ vof l ∧ vof l ≤ 12 := by unfold vof; omega
  unfold impl_holds
  simp (disch := omega) only [impl_variableOf_eq, Option.bind_some, rq_i64, rq_pos]
  rfl

theorem impl_CubeHolds_eq (c : List Int) (v : List Bool) (h : c.length ≤ 4000000000) : impl_CubeHolds c v = some (cubeHoldsB c v) := by
  unfold impl_CubeHolds cubeHoldsB
  rw [impl_isCube_eq c h]
  simp only [Option.bind_some]
  cases hc : cubeB c with
  | false => rfl
  | true =>
    have hl := cubeB_lits hc
    by_cases hv : v.length = 12
    · simp (disch := omega) only [cond_true, cbeq_pos, decide_eq_true hv]
      unfold slices_ContainsFunc_int__impl_CubeHolds_1 slices_IndexFunc_int__impl_CubeHolds_1
      obtain ⟨r, h1, h2⟩ := loop_find (f := slices_IndexFunc_int__impl_CubeHolds_1_l1 c v) c 0 (fun x => !litB v x) (fun i hi => by
        unfold slices_IndexFunc_int__impl_CubeHolds_1_l1 impl_CubeHolds_1
        have := hl _ (getD_mem (d := 0) hi)
        simp (disch := omega) only [cdec_pos, rq_pos, Option.bind_some, Int.toNat_natCast]
        rw [impl_holds_eq this hv]
        simp (disch := omega) only [Option.bind_some, rq_i64]
        cases litB v (c.getD i 0) <;> rfl) (by
        unfold slices_IndexFunc_int__impl_CubeHolds_1_l1
        simp (disch := omega) only [cdec_neg])
      rw [h1]
      simp only [Option.bind_some, h2]
      congr 1
      rw [List.any_eq_not_all_not]
      simp
    · simp (disch := omega) only [cond_true, cbeq_neg, decide_eq_false hv]
      rfl

end Go.AE.Y
namespace Go.AE.Y
open Go Go.AE

/-! ### Rows in the order of a key -/

theorem sortI_key {f : Int → Int → Option Int} {l : List Int} {key : Int → Int} (hn : l.length ≤ 4000000000) (hf : ∀ x ∈ l, ∀ y ∈ l, f x y = some (key x - key y)) (hi : ∀ x ∈ l, ∀ y ∈ l, key x = key y → x = y) :
    sortI f l = some (l.mergeSort fun x y => decide (key x ≤ key y)) := by
  have hlt : ∀ x ∈ l, ∀ y ∈ l, ltM f x y = decide (key x < key y) := fun x hx y hy => by
    unfold ltM
    rw [hf x hx y hy]
    by_cases h : key x < key y
    · rw [decide_eq_true h]; exact decide_eq_true (by omega)
    · rw [decide_eq_false h]; exact decide_eq_false (by omega)
  have hs : Sorts f l := by
    refine ⟨hn, fun x hx y hy => ⟨_, hf x hx y hy⟩, fun x hx => ?_, fun x hx y hy z hz h1 h2 => ?_, fun x hx y hy z hz h1 h2 => ?_, fun x hx y hy h1 h2 => ?_⟩
    · rw [hlt x hx x hx]; exact decide_eq_false (by omega)
    · rw [hlt x hx y hy, decide_eq_true_eq] at h1
      rw [hlt y hy z hz, decide_eq_true_eq] at h2
      rw [hlt x hx z hz]
      exact decide_eq_true (by omega)
    · rw [hlt x hx y hy, decide_eq_false_iff_not] at h1
      rw [hlt y hy z hz, decide_eq_false_iff_not] at h2
      rw [hlt x hx z hz]
      exact decide_eq_false (by omega)
    · rw [hlt x hx y hy, decide_eq_false_iff_not] at h1
      rw [hlt y hy x hx, decide_eq_false_iff_not] at h2
      exact hi x hx y hy (by omega)
  unfold sortI
  rw [if_pos hs]
  have e := List.map_mergeSort (r := fun x y => !ltM f y x) (s := fun x y => decide (key x ≤ key y)) (f := id) (l := l) (fun a ha b hb => by
    rw [hlt b hb a ha]
    by_cases h : key b < key a
    · rw [decide_eq_true h]; exact (decide_eq_false (by show ¬ key (id a) ≤ key (id b); simp only [id]; omega)).symm
    · rw [decide_eq_false h]; exact (decide_eq_true (by show key (id a) ≤ key (id b); simp only [id]; omega)).symm)
  rw [List.map_id, List.map_id] at e
  rw [e]

theorem sort_asc (l : List Int) (key : Int → Int) : (l.mergeSort fun x y => decide (key x ≤ key y)).Pairwise (fun x y => key x ≤ key y) := by
  have := List.pairwise_mergeSort (le := fun x y => decide (key x ≤ key y)) (fun a b c h1 h2 => by rw [decide_eq_true_eq] at h1 h2 ⊢; omega) (fun a b => by rw [Bool.or_eq_true, decide_eq_true_eq, decide_eq_true_eq]; omega) l
  exact this.imp (fun h => of_decide_eq_true h)

theorem asc_unique {l l' : List Int} {key : Int → Int} (h : l.Pairwise (fun x y => key x < key y)) (h' : l'.Pairwise (fun x y => key x < key y)) (hm : ∀ x, x ∈ l ↔ x ∈ l') : l = l' := by
  have nd : ∀ {a : List Int}, a.Pairwise (fun x y => key x < key y) → a.Nodup := fun ha => ha.imp (fun hlt e => by subst e; exact absurd hlt (Int.lt_irrefl _))
  exact List.Perm.eq_of_pairwise (le := fun x y => key x < key y) (fun a b _ _ h1 h2 => absurd h1 (by omega)) h h' ((List.perm_ext_iff_of_nodup (nd h) (nd h')).2 hm)

/-! ### Rows without repetitions -/

def cmpF (s : List Int) : Nat → List Int
  | 0 => []
  | n + 1 => if 1 ≤ n ∧ s.getD n 0 = s.getD (n - 1) 0 then cmpF s n else cmpF s n ++ [s.getD n 0]

theorem take_snoc1 {l : List Int} {n : Nat} (h : n < l.length) : l.take (n + 1) = l.take n ++ [l.getD n 0] := by
  rw [List.take_add_one, List.getElem?_eq_getElem h, List.getD_eq_getElem?_getD, List.getElem?_eq_getElem h]
  rfl

theorem cmpF_mem {s : List Int} : ∀ n, n ≤ s.length → ∀ x, x ∈ cmpF s n ↔ x ∈ s.take n
  | 0, _, x => by unfold cmpF; rw [List.take_zero]
  | n + 1, h, x => by
    have ih := cmpF_mem (s := s) n (by omega) x
    unfold cmpF
    rw [take_snoc1 (by omega), List.mem_append, List.mem_singleton]
    split
    · rename_i hd
      rw [ih]
      constructor
      · exact Or.inl
      · rintro (h1 | rfl)
        · exact h1
        · rw [hd.2]
          obtain ⟨m, rfl⟩ : ∃ m, n = m + 1 := ⟨n - 1, by omega⟩
          rw [take_snoc1 (by omega)]
          exact List.mem_append_right _ (by rw [Nat.add_sub_cancel]; exact List.mem_singleton.2 rfl)
    · rw [List.mem_append, List.mem_singleton, ih]

theorem cmpF_asc {s : List Int} {key : Int → Int} (hs : s.Pairwise (fun x y => key x ≤ key y)) (hi : ∀ x ∈ s, ∀ y ∈ s, key x = key y → x = y) : ∀ n, n ≤ s.length → (cmpF s n).Pairwise (fun x y => key x < key y)
  | 0, _ => List.Pairwise.nil
  | n + 1, h => by
    have ih := cmpF_asc hs hi n (by omega)
    have hat : ∀ i, i < s.length → s.getD i 0 ∈ s := fun i h => getD_mem h
    have hle : ∀ i j, i < j → j < s.length → key (s.getD i 0) ≤ key (s.getD j 0) := fun i j h1 h2 => by
      have := List.pairwise_iff_getElem.1 hs i j (by omega) h2 h1
      rwa [List.getD_eq_getElem?_getD, List.getD_eq_getElem?_getD, List.getElem?_eq_getElem h2, List.getElem?_eq_getElem (show i < s.length by omega)]
    unfold cmpF
    split
    · exact ih
    · rename_i hd
      refine List.pairwise_append.2 ⟨ih, List.pairwise_singleton _ _, fun z hz y hy => ?_⟩
      rw [List.mem_singleton] at hy
      subst hy
      have hz' := (cmpF_mem (s := s) n (by omega) z).1 hz
      obtain ⟨i, i1, i2⟩ := List.mem_iff_getElem.1 hz'
      rw [List.length_take] at i1
      rw [List.getElem_take] at i2
      have e : s.getD i 0 = z := by rw [List.getD_eq_getElem?_getD, List.getElem?_eq_getElem (show i < s.length by omega)]; exact i2
      have h1 := hle i n (by omega) (by omega)
      rw [e] at h1
      by_cases q : key z = key (s.getD n 0)
      · exfalso
        apply hd
        refine ⟨by omega, ?_⟩
        have h3 := hle (n - 1) n (by omega) (by omega)
        have h2 : key z ≤ key (s.getD (n - 1) 0) := by
          rcases Nat.lt_or_ge i (n - 1) with r | r
          · rw [← e]; exact hle i (n - 1) r (by omega)
          · rw [← e, show i = n - 1 by omega]; omega
        exact hi _ (hat n (by omega)) _ (hat (n - 1) (by omega)) (by omega)
      · omega

theorem slices_Compact_eq (s : List Int) (hn : s.length ≤ 4000000000) : slices_Compact_int s = some (cmpF s s.length) := by
  have h1 : ∀ n, 1 ≤ n → n ≤ s.length → (∀ k, 1 ≤ k → k < n → s.getD k 0 ≠ s.getD (k - 1) 0) → cmpF s n = s.take n := by
    intro n
    induction n with
    | zero => intro h; omega
    | succ n ih =>
      intro _ h2 h3
      rw [take_snoc1 (by omega)]
      unfold cmpF
      rcases Nat.lt_or_ge 0 n with h4 | h4
      · rw [if_neg (fun h => h3 n h4 (by omega) h.2), ih h4 (by omega) (fun k k1 k2 => h3 k k1 (by omega))]
      · have : n = 0 := by omega
        subst this
        rw [if_neg (fun h => absurd h.1 (by omega))]
        rfl
  unfold slices_Compact_int
  rcases Nat.lt_or_ge s.length 2 with h2 | h2
  · rw [cdec_pos (by omega)]
    rcases Nat.lt_or_ge 0 s.length with h3 | h3
    · rw [h1 s.length h3 (Nat.le_refl _) (fun k k1 k2 => by omega), List.take_length]
    · have : s = [] := List.eq_nil_of_length_eq_zero (by omega)
      subst this
      rfl
  rw [cdec_neg (by omega)]
  refine loop_fn (f := slices_Compact_int_l1 s) (fun t : Int => ∃ n : Nat, t = n ∧ 1 ≤ n ∧ n ≤ s.length ∧ ∀ k, 1 ≤ k → k < n → s.getD k 0 ≠ s.getD (k - 1) 0) (fun t => s.length - t.toNat) (fun _ => cmpF s s.length) ?_ _ ⟨1, rfl, by omega, by omega, fun k k1 k2 => by omega⟩
  rintro t ⟨n, rfl, n1, n2, n3⟩
  unfold slices_Compact_int_l1
  rcases Nat.lt_or_ge n s.length with h3 | h3
  · rw [cdec_pos (by omega), rq_pos ⟨by omega, by omega⟩, rq_i64 (by omega) (by omega), rq_pos ⟨by omega, by omega⟩, Int.toNat_natCast, show ((n : Int) - 1).toNat = n - 1 by omega]
    by_cases q : s.getD n 0 = s.getD (n - 1) 0
    · right
      rw [cbeq_pos q, rq_pos ⟨by omega, by omega⟩]
      have e0 : cmpF s (n + 1) = s.take n := by
        unfold cmpF
        rw [if_pos ⟨n1, q⟩, h1 n n1 n2 n3]
      refine loop_fn (f := slices_Compact_int_l2 n) (fun t : Int × Int × List Int => ∃ b : Nat, t.2.1 = b ∧ 1 ≤ b ∧ n + b ≤ s.length ∧ t.1 = (cmpF s (n + b)).length ∧ (cmpF s (n + b)).length + 1 ≤ n + b ∧ t.2.2.length = s.length ∧ t.2.2.take (cmpF s (n + b)).length = cmpF s (n + b) ∧ ∀ j, n + b ≤ j + 1 → t.2.2.getD j 0 = s.getD j 0) (fun t => s.length - t.2.1.toNat) (fun _ => .inr (cmpF s s.length)) ?_ _ ⟨1, rfl, Nat.le_refl _, by omega, ?_, ?_, rfl, ?_, fun _ _ => rfl⟩
      · rintro ⟨k1, k2, a⟩ ⟨b, hb, b1, b2, b3, b4, b5, b6, b7⟩
        dsimp only at hb b3 b5 b6 b7 ⊢
        subst hb
        subst b3
        unfold slices_Compact_int_l2
        dsimp only
        rcases Nat.lt_or_ge (n + b) s.length with h4 | h4
        · left
          have e1 : ((n : Int) + (b : Int)).toNat = n + b := by omega
          have e2 : ((n : Int) + ((b : Int) - 1)).toNat = n + b - 1 := by omega
          rw [cdec_pos (by omega), rq_pos ⟨by omega, by omega⟩, rq_i64 (by omega) (by omega), rq_pos ⟨by omega, by omega⟩, e1, e2, b7 (n + b) (by omega), b7 (n + b - 1) (by omega)]
          by_cases q2 : s.getD (n + b) 0 = s.getD (n + b - 1) 0
          · have e3 : cmpF s (n + (b + 1)) = cmpF s (n + b) := by
              show cmpF s (n + b + 1) = _
              conv => lhs; unfold cmpF
              rw [if_pos ⟨by omega, q2⟩]
            rw [show (s.getD (n + b) 0 != s.getD (n + b - 1) 0) = false by rw [q2]; exact bne_self_eq_false _, cff, rq_i64 (by omega) (by omega)]
            refine ⟨_, rfl, ⟨b + 1, by simp, by omega, by omega, ?_, ?_, b5, ?_, fun j hj => b7 j (by omega)⟩, by (try dsimp only) <;> omega, rfl⟩
            · rw [e3]
            · rw [e3]; omega
            · rw [e3]; exact b6
          · have e3 : cmpF s (n + (b + 1)) = cmpF s (n + b) ++ [s.getD (n + b) 0] := by
              show cmpF s (n + b + 1) = _
              conv => lhs; unfold cmpF
              rw [if_neg (fun h => q2 h.2)]
            have e4 : (cmpF s (n + (b + 1))).length = (cmpF s (n + b)).length + 1 := by rw [e3, List.length_append, List.length_singleton]
            rw [show (s.getD (n + b) 0 != s.getD (n + b - 1) 0) = true by rw [bne_iff_ne]; exact q2, ctt, rq_pos ⟨by omega, by omega⟩, rq_pos ⟨by omega, by omega⟩, rq_i64 (by omega) (by omega), rq_i64 (by omega) (by omega), Int.toNat_natCast]
            refine ⟨_, rfl, ⟨b + 1, by simp, by omega, by omega, ?_, ?_, ?_, ?_, fun j hj => ?_⟩, by (try dsimp only) <;> omega, rfl⟩
            · rw [e4]; simp
            · rw [e4]; omega
            · dsimp only; rw [List.length_set]; exact b5
            · dsimp only
              rw [e4, List.take_add_one, List.take_set_of_le (Nat.le_refl _), b6, List.getElem?_set_self (by omega), e3]
              rfl
            · dsimp only
              rw [List.getD_eq_getElem?_getD, List.getElem?_set_ne (by omega), ← List.getD_eq_getElem?_getD]
              exact b7 j (by omega)
        · right
          have e : n + b = s.length := by omega
          unfold slices_Compact_int_j1
          dsimp only
          rw [e] at b4 b6 ⊢
          have hl : (a.take (cmpF s s.length).length ++ List.replicate (a.length - (cmpF s s.length).length) (0 : Int)).length = s.length := by rw [List.length_append, List.length_take, List.length_replicate]; omega
          rw [cdec_neg (by omega), rq_pos ⟨by omega, by omega⟩, Int.toNat_natCast, hl, rq_pos ⟨by omega, by omega⟩, b6, List.take_left' rfl]
          rfl
      · dsimp only
        rw [e0, List.length_take]; omega
      · rw [e0, List.length_take]; omega
      · dsimp only
        rw [e0, List.length_take, Nat.min_eq_left n2]
    · left
      rw [cbeq_neg q, rq_i64 (by omega) (by omega)]
      refine ⟨_, rfl, ⟨n + 1, by simp, by omega, by omega, fun k k1 k2 => ?_⟩, by omega, rfl⟩
      rcases Nat.lt_or_ge k n with h | h
      · exact n3 k k1 h
      · rw [show k = n by omega]; exact q
  · right
    have : n = s.length := by omega
    rw [cdec_neg (by omega), h1 s.length (by omega) (Nat.le_refl _) (by rw [← this]; exact n3), List.take_length]

theorem Contains_at (s : List Int) (v : Int) (h : s.length ≤ 4000000000) : slices_Contains_int s v = some (s.any (fun x => v == x)) := by
  unfold slices_Contains_int slices_Index_int
  obtain ⟨r, hr1, hr2⟩ := loop_find (f := slices_Index_int_l1 s v) s 0 (fun x => v == x) (fun i hi => by
    unfold slices_Index_int_l1
    rw [cdec_pos (by omega), rq_pos ⟨by omega, by omega⟩, Int.toNat_natCast]
    cases v == s.getD i 0 with
    | true => rw [ctt, ctt]
    | false => rw [cff, cff, rq_i64 (by omega) (by omega)]) (by
    unfold slices_Index_int_l1
    rw [cdec_neg (by omega)])
  rw [hr1, bind_s, hr2]

/-! ### Clauses -/

/-- The literal of a variable in a row, the last if there are two. -/
def seenF (l : List Int) : Nat → List Int
  | 0 => List.replicate 13 0
  | n + 1 => (seenF l n).set (vof (l.getD n 0)).toNat (l.getD n 0)
def litD (s : List Int) : Nat → List Int
  | 0 => []
  | n + 1 => litD s n ++ (if s.getD (n + 1) 0 = 0 then [] else [s.getD (n + 1) 0])
def litsOk (l : List Int) : Bool := l.all isLit && l.all (fun x => !(l.any (fun y => (0 - x) == y)))
def litsF (l : List Int) : List Int := litD (seenF l l.length) 12
def clauseB (l : List Int) : Bool × Int × List (Int × Int) := bif decide (l.length ≤ 40) && litsOk l then (true, 1, (litsF l).map (fun x => (1, x))) else (false, 0, [])

theorem vof_lit {n : Int} (h : isLit n = true) : 1 ≤ vof n ∧ vof n ≤ 12 ∧ n ≠ 0 := by
  have := isLit_iff.1 h
  unfold vof
  omega

theorem seenF_len (l : List Int) : ∀ n, (seenF l n).length = 13
  | 0 => rfl
  | n + 1 => by unfold seenF; rw [List.length_set]; exact seenF_len l n

theorem litsOk_all {l : List Int} (h : litsOk l = true) : (∀ x ∈ l, isLit x = true) ∧ ∀ x ∈ l, ∀ y ∈ l, vof x = vof y → x = y := by
  unfold litsOk at h
  simp only [Bool.and_eq_true, List.all_eq_true, Bool.not_eq_true', List.any_eq_false] at h
  refine ⟨h.1, fun x hx y hy e => ?_⟩
  have h2 := h.2 x hx y hy
  rw [beq_iff_eq] at h2
  have := vof_lit (h.1 x hx)
  unfold vof at e this
  omega

theorem seenF_get {l : List Int} (hl : ∀ x ∈ l, isLit x = true) : ∀ n, n ≤ l.length → ∀ v : Nat, v ≤ 12 → ((seenF l n).getD v 0 = 0 ∧ ∀ x ∈ l.take n, vof x ≠ v) ∨ ((seenF l n).getD v 0 ∈ l.take n ∧ vof ((seenF l n).getD v 0) = v)
  | 0, _, v, hv => by
    left
    refine ⟨?_, fun x hx => by rw [List.take_zero] at hx; cases hx⟩
    show (List.replicate 13 (0 : Int)).getD v 0 = 0
    rw [List.getD_eq_getElem?_getD, List.getElem?_replicate_of_lt (by omega)]
    rfl
  | n + 1, h, v, hv => by
    have hn := vof_lit (hl _ (getD_mem (l := l) (i := n) (d := 0) (by omega)))
    have hln := seenF_len l n
    unfold seenF
    rw [take_snoc1 (by omega)]
    by_cases q : (vof (l.getD n 0)).toNat = v
    · right
      subst q
      have e : ((seenF l n).set (vof (l.getD n 0)).toNat (l.getD n 0)).getD (vof (l.getD n 0)).toNat 0 = l.getD n 0 := by
        rw [List.getD_eq_getElem?_getD (l := (seenF l n).set _ _), List.getElem?_set_self (by omega)]
        rfl
      rw [e]
      refine ⟨List.mem_append_right _ (List.mem_singleton.2 rfl), ?_⟩
      omega
    · have e : ((seenF l n).set (vof (l.getD n 0)).toNat (l.getD n 0)).getD v 0 = (seenF l n).getD v 0 := by
        rw [List.getD_eq_getElem?_getD (l := (seenF l n).set _ _), List.getElem?_set_ne q, ← List.getD_eq_getElem?_getD]
      rw [e]
      rcases seenF_get hl n (by omega) v hv with ⟨h1, h2⟩ | ⟨h1, h2⟩
      · left
        refine ⟨h1, fun x hx => ?_⟩
        rcases List.mem_append.1 hx with hx | hx
        · exact h2 x hx
        · rw [List.mem_singleton] at hx
          rw [hx]
          omega
      · right
        exact ⟨List.mem_append_left _ h1, h2⟩

theorem litD_spec {l : List Int} (hl : ∀ x ∈ l, isLit x = true) : ∀ n, n ≤ 12 → (litD (seenF l l.length) n).Pairwise (fun x y => vof x < vof y) ∧ (∀ x ∈ litD (seenF l l.length) n, x ∈ l ∧ vof x ≤ n) ∧ ∀ x ∈ l, vof x ≤ n → ∃ y ∈ litD (seenF l l.length) n, vof y = vof x
  | 0, _ => ⟨List.Pairwise.nil, fun x hx => absurd hx List.not_mem_nil, fun x hx h => (by have := vof_lit (hl x hx); omega)⟩
  | n + 1, h => by
    obtain ⟨i1, i2, i3⟩ := litD_spec hl n (by omega)
    have hs := seenF_get hl l.length (Nat.le_refl _) (n + 1) h
    rw [List.take_length] at hs
    unfold litD
    rcases hs with ⟨h1, h2⟩ | ⟨h1, h2⟩
    · rw [if_pos h1, List.append_nil]
      refine ⟨i1, fun x hx => ⟨(i2 x hx).1, by have := (i2 x hx).2; omega⟩, fun x hx hv => ?_⟩
      have := h2 x hx
      exact i3 x hx (by omega)
    · have hne := (vof_lit (hl _ h1)).2.2
      rw [if_neg hne]
      refine ⟨List.pairwise_append.2 ⟨i1, List.pairwise_singleton _ _, fun x hx y hy => ?_⟩, fun x hx => ?_, fun x hx hv => ?_⟩
      · rw [List.mem_singleton] at hy
        rw [hy, h2]
        have := (i2 x hx).2
        omega
      · rcases List.mem_append.1 hx with hx | hx
        · exact ⟨(i2 x hx).1, by have := (i2 x hx).2; omega⟩
        · rw [List.mem_singleton] at hx
          rw [hx]
          exact ⟨h1, by omega⟩
      · by_cases q : vof x ≤ n
        · obtain ⟨y, y1, y2⟩ := i3 x hx q
          exact ⟨y, List.mem_append_left _ y1, y2⟩
        · exact ⟨_, List.mem_append_right _ (List.mem_singleton.2 rfl), by omega⟩

theorem litsF_asc {l : List Int} (h : litsOk l = true) : (litsF l).Pairwise (fun x y => vof x < vof y) := (litD_spec (litsOk_all h).1 12 (Nat.le_refl _)).1
theorem litsF_mem {l : List Int} (h : litsOk l = true) (x : Int) : x ∈ litsF l ↔ x ∈ l := by
  obtain ⟨h1, h2⟩ := litsOk_all h
  obtain ⟨i1, i2, i3⟩ := litD_spec h1 12 (Nat.le_refl _)
  constructor
  · exact fun hx => (i2 x hx).1
  · intro hx
    obtain ⟨y, y1, y2⟩ := i3 x hx (by have := vof_lit (h1 x hx); omega)
    rw [h2 x hx y (i2 y y1).1 y2.symm]
    exact y1

theorem litsOk_perm {l l' : List Int} (h : l.Perm l') : litsOk l = litsOk l' := by
  unfold litsOk
  have e : ∀ x : Int, l.any (fun y => (0 - x) == y) = l'.any (fun y => (0 - x) == y) := fun x => h.any_eq
  simp only [e]
  rw [h.all_eq, h.all_eq]

theorem clauseB_perm {l l' : List Int} (h : l.Perm l') : clauseB l = clauseB l' := by
  unfold clauseB
  rw [h.length_eq, litsOk_perm h]
  cases hq : decide (l'.length ≤ 40) && litsOk l' with
  | false => rfl
  | true =>
    rw [Bool.and_eq_true] at hq
    have h1 : litsOk l = true := by rw [litsOk_perm h]; exact hq.2
    have e : litsF l = litsF l' := asc_unique (litsF_asc h1) (litsF_asc hq.2) (fun x => by rw [litsF_mem h1, litsF_mem hq.2, h.mem_iff])
    rw [e]

theorem litsF_len (l : List Int) : (litsF l).length ≤ 12 := by
  unfold litsF
  have : ∀ s n, (litD s n).length ≤ n := by
    intro s n
    induction n with
    | zero => exact Nat.le_refl _
    | succ n ih =>
      unfold litD
      rw [List.length_append]
      split
      · rw [List.length_nil]; omega
      · rw [List.length_singleton]; omega
  exact this _ _

theorem impl_ClauseOf_eq (l : List Int) (hn : l.length ≤ 4000000000) : impl_ClauseOf l = some (clauseB l) := by
  unfold impl_ClauseOf clauseB
  by_cases h0 : l.length ≤ 40
  case neg => rw [cdec_pos (by omega), decide_eq_false h0, Bool.false_and, cff]
  rw [cdec_neg (by omega), decide_eq_true h0, Bool.true_and]
  refine loop_fn (f := impl_ClauseOf_l1 l) (fun s : Int => ∃ i : Nat, s = i ∧ i ≤ l.length ∧ ∀ j, j < i → isLit (l.getD j 0) = true ∧ l.any (fun y => (0 - l.getD j 0) == y) = false) (fun s => l.length - s.toNat) (fun _ => bif litsOk l then (true, 1, (litsF l).map (fun x => (1, x))) else (false, 0, [])) ?_ _ ⟨0, rfl, Nat.zero_le _, fun j hj => by omega⟩
  rintro s ⟨i, rfl, hi, hp⟩
  unfold impl_ClauseOf_l1
  rcases Nat.lt_or_ge i l.length with h1 | h1
  · have hmem := getD_mem (l := l) (i := i) (d := 0) h1
    rw [cdec_pos (by omega), rq_pos ⟨by omega, by omega⟩, Int.toNat_natCast, impl_isLiteral_eq, bind_s]
    cases q1 : isLit (l.getD i 0) with
    | false =>
      right
      have : litsOk l = false := by
        cases h : litsOk l with
        | false => rfl
        | true => have := (litsOk_all h).1 _ hmem; rw [q1] at this; cases this
      rw [Bool.not_false, ctt, this, cff]
    | true =>
      have hl := isLit_iff.1 q1
      have hc : slices_Contains_int l (0 - l.getD i 0) = some (l.any (fun y => (0 - l.getD i 0) == y)) := Contains_at l _ hn
      rw [Bool.not_true, cff, rq_i64 (by omega) (by omega), hc, bind_s]
      cases q2 : l.any (fun y => (0 - l.getD i 0) == y) with
      | true =>
        right
        have : litsOk l = false := by
          cases h : litsOk l with
          | false => rfl
          | true =>
            unfold litsOk at h
            simp only [Bool.and_eq_true, List.all_eq_true] at h
            have := h.2 _ hmem
            rw [q2] at this
            cases this
        rw [ctt, this, cff]
      | false =>
        left
        rw [cff, rq_i64 (by omega) (by omega)]
        refine ⟨_, rfl, ⟨i + 1, by simp, by omega, fun j hj => ?_⟩, by omega, rfl⟩
        rcases Nat.lt_or_ge j i with h2 | h2
        · exact hp j h2
        · rw [show j = i by omega]; exact ⟨q1, q2⟩
  · right
    have hei : i = l.length := by omega
    have hok : litsOk l = true := by
      unfold litsOk
      simp only [Bool.and_eq_true, List.all_eq_true]
      constructor
      · intro x hx
        obtain ⟨j, hj, rfl⟩ := List.mem_iff_getElem.1 hx
        have := (hp j (by omega)).1
        rwa [List.getD_eq_getElem?_getD, List.getElem?_eq_getElem hj] at this
      · intro x hx
        obtain ⟨j, hj, rfl⟩ := List.mem_iff_getElem.1 hx
        have := (hp j (by omega)).2
        rw [List.getD_eq_getElem?_getD, List.getElem?_eq_getElem hj] at this
        dsimp only [Option.getD_some] at this
        rw [this]
        rfl
    obtain ⟨o1, o2⟩ := litsOk_all hok
    have hf : ∀ x ∈ l, ∀ y ∈ l, impl_ClauseOf_1 x y = some (vof x - vof y) := fun x hx y hy => by
      have hx' := isLit_iff.1 (o1 x hx)
      have hy' := isLit_iff.1 (o1 y hy)
      have vx := vof_lit (o1 x hx)
      have vy := vof_lit (o1 y hy)
      unfold impl_ClauseOf_1
      rw [impl_variableOf_eq (by omega), bind_s, impl_variableOf_eq (by omega), bind_s, rq_i64 (by omega) (by omega)]
    have hS : ∀ S, S = l.mergeSort (fun x y => decide (vof x ≤ vof y)) → cmpF S S.length = litsF l ∧ S.length = l.length := by
      rintro S rfl
      have hperm := List.mergeSort_perm l (fun x y => decide (vof x ≤ vof y))
      refine ⟨asc_unique (cmpF_asc (sort_asc l vof) (fun x hx y hy => o2 x (hperm.mem_iff.1 hx) y (hperm.mem_iff.1 hy)) _ (Nat.le_refl _)) (litsF_asc hok) (fun x => ?_), hperm.length_eq⟩
      rw [cmpF_mem _ (Nat.le_refl _), List.take_length, hperm.mem_iff, litsF_mem hok]
    obtain ⟨e1, e2⟩ := hS _ rfl
    have hclone : slices_Clone_int l = some l := by
      unfold slices_Clone_int
      refine nt_pos (fun e => by rw [e]) ?_
      rw [rq_pos (by simp only [List.length_nil, bound]; omega), List.nil_append]
    rw [cdec_neg (by omega), hclone, bind_s, sortI_key (key := vof) (by omega) hf o2, bind_s, slices_Compact_eq _ (by omega), bind_s, e1, hok, ctt]
    have hlen := litsF_len l
    refine loop_fn (f := impl_ClauseOf_l2 (litsF l)) (fun s : Int × List (Int × Int) => ∃ i : Nat, s.1 = i ∧ i ≤ (litsF l).length ∧ s.2 = ((litsF l).take i).map (fun x => (1, x))) (fun s => (litsF l).length - s.1.toNat) (fun _ => .inr (true, 1, (litsF l).map (fun x => (1, x)))) ?_ _ ⟨0, rfl, Nat.zero_le _, rfl⟩
    rintro ⟨s, o⟩ ⟨i, rfl, hi, rfl⟩
    unfold impl_ClauseOf_l2
    dsimp only
    rcases Nat.lt_or_ge i (litsF l).length with h4 | h4
    · left
      rw [cdec_pos (by omega), rq_pos ⟨by omega, by omega⟩, rq_pos (by simp [bound]; omega), rq_i64 (by omega) (by omega), Int.toNat_natCast]
      exact ⟨_, rfl, ⟨i + 1, by simp, by omega, by rw [take_snoc1 h4, List.map_append]; rfl⟩, by (try dsimp only) <;> omega, rfl⟩
    · right
      have : i = (litsF l).length := by omega
      rw [cdec_neg (by omega), this, List.take_length]

theorem spec_ClauseOf_eq (l : List Int) (_hn : l.length ≤ 4000000000) : spec_ClauseOf l = some (clauseB l) := by
  unfold spec_ClauseOf clauseB
  rw [rq_pos ⟨by omega, by simp only [bound]; omega, rfl⟩]
  by_cases h0 : l.length ≤ 40
  case neg => rw [cdec_pos (by omega), decide_eq_false h0, Bool.false_and, cff]
  rw [cdec_neg (by omega), decide_eq_true h0, Bool.true_and]
  refine loop_fn (f := spec_ClauseOf_l2 l) (fun s : Int × List Int => ∃ i : Nat, s.1 = i ∧ i ≤ l.length ∧ s.2 = seenF l i ∧ (∀ x ∈ l.take i, isLit x = true) ∧ ∀ x ∈ l.take i, ∀ y ∈ l.take i, y ≠ 0 - x) (fun s => l.length - s.1.toNat) (fun _ => bif litsOk l then (true, 1, (litsF l).map (fun x => (1, x))) else (false, 0, [])) ?_ _ ⟨0, rfl, Nat.zero_le _, rfl, fun x hx => absurd hx (by rw [List.take_zero]; exact List.not_mem_nil), fun x hx => absurd hx (by rw [List.take_zero]; exact List.not_mem_nil)⟩
  rintro ⟨s, a⟩ ⟨i, hs, hi, ha, hp, hd⟩
  dsimp only at hs ha ⊢
  subst hs
  subst ha
  unfold spec_ClauseOf_l2
  dsimp only
  rcases Nat.lt_or_ge i l.length with h1 | h1
  · have hmem := getD_mem (l := l) (i := i) (d := 0) h1
    rw [cdec_pos (by omega), rq_pos ⟨by omega, by omega⟩, Int.toNat_natCast, spec_l1Lit_eq, bind_s]
    cases q1 : isLit (l.getD i 0) with
    | false =>
      right
      have : litsOk l = false := by
        cases h : litsOk l with
        | false => rfl
        | true => have := (litsOk_all h).1 _ hmem; rw [q1] at this; cases this
      rw [Bool.not_false, ctt, this, cff]
    | true =>
      have hl := isLit_iff.1 q1
      have hv := vof_lit q1
      have hsl := seenF_len l i
      rw [Bool.not_true, cff, rq_pos ⟨by omega, by omega⟩, spec_l1Abs_eq (by omega), bind_s, rq_pos ⟨by omega, by omega⟩, rq_pos ⟨by omega, by omega⟩, rq_i64 (by omega) (by omega)]
      have htl : ∀ x ∈ l.take i, x ∈ l := fun x hx => List.mem_of_mem_take hx
      have hg : ((seenF l i).getD (vof (l.getD i 0)).toNat 0 = 0 ∧ ∀ x ∈ l.take i, vof x ≠ (vof (l.getD i 0)).toNat) ∨ ((seenF l i).getD (vof (l.getD i 0)).toNat 0 ∈ l.take i ∧ vof ((seenF l i).getD (vof (l.getD i 0)).toNat 0) = (vof (l.getD i 0)).toNat) := by
        have e : ∀ n, n ≤ i → seenF (l.take i) n = seenF l n := by
          intro n
          induction n with
          | zero => intro _; rfl
          | succ n ih =>
            intro hn
            unfold seenF
            rw [ih (by omega), show (l.take i).getD n 0 = l.getD n 0 by rw [List.getD_eq_getElem?_getD, List.getElem?_take_of_lt (by omega), ← List.getD_eq_getElem?_getD]]
        have := seenF_get (l := l.take i) hp i (by rw [List.length_take]; omega) (vof (l.getD i 0)).toNat (by omega)
        rw [e i (Nat.le_refl _), List.take_take, Nat.min_self] at this
        exact this
      by_cases q2 : (seenF l i).getD (vof (l.getD i 0)).toNat 0 = 0 - l.getD i 0
      · right
        have : litsOk l = false := by
          cases h : litsOk l with
          | false => rfl
          | true =>
            exfalso
            rcases hg with ⟨g1, g2⟩ | ⟨g1, g2⟩
            · omega
            · have := (litsOk_all h).2 _ (htl _ g1) _ hmem (by omega)
              omega
        rw [cbeq_pos q2, this, cff]
      · left
        rw [cbeq_neg q2, rq_pos ⟨by omega, by omega⟩, rq_pos ⟨by omega, by omega⟩, rq_i64 (by omega) (by omega)]
        have hno : ∀ y ∈ l.take i, y ≠ 0 - l.getD i 0 := fun y hy e => by
          have hy2 := vof_lit (hp y hy)
          have hvy : vof y = vof (l.getD i 0) := by unfold vof; omega
          rcases hg with ⟨g1, g2⟩ | ⟨g1, g2⟩
          · exact g2 y hy (by omega)
          · have hz := vof_lit (hp _ g1)
            have hd1 := hd _ g1 y hy
            generalize (seenF l i).getD (vof (l.getD i 0)).toNat 0 = z at *
            unfold vof at g2 hvy hz hy2 hv
            omega
        refine ⟨_, rfl, ⟨i + 1, by simp, by omega, rfl, ?_, ?_⟩, by (try dsimp only) <;> omega, rfl⟩
        · intro x hx
          rw [take_snoc1 h1] at hx
          rcases List.mem_append.1 hx with hx | hx
          · exact hp x hx
          · rw [List.mem_singleton] at hx; rw [hx]; exact q1
        · intro x hx y hy
          rw [take_snoc1 h1] at hx hy
          rcases List.mem_append.1 hx with hx | hx <;> rcases List.mem_append.1 hy with hy | hy
          · exact hd x hx y hy
          · rw [List.mem_singleton] at hy
            rw [hy]
            have := hno x hx
            omega
          · rw [List.mem_singleton] at hx
            rw [hx]
            exact hno y hy
          · rw [List.mem_singleton] at hx hy
            rw [hx, hy]
            omega
  · right
    have hei : i = l.length := by omega
    rw [hei, List.take_length] at hp hd
    have hok : litsOk l = true := by
      unfold litsOk
      simp only [Bool.and_eq_true, List.all_eq_true, Bool.not_eq_true', List.any_eq_false, beq_iff_eq]
      exact ⟨hp, fun x hx y hy e => hd x hx y hy e.symm⟩
    rw [cdec_neg (by omega), hok, ctt, hei]
    unfold spec_ClauseOf_j1
    have hsl := seenF_len l l.length
    have key : loop (spec_ClauseOf_l1 (seenF l l.length)) ((1 : Int), ([] : List (Int × Int))) = some (true, 1, (litsF l).map (fun x => (1, x))) := by
      have hdl : ∀ n, (litD (seenF l l.length) n).length ≤ n := by
        intro n
        induction n with
        | zero => exact Nat.le_refl _
        | succ n ih =>
          unfold litD
          rw [List.length_append]
          split
          · rw [List.length_nil]; omega
          · rw [List.length_singleton]; omega
      refine loop_fn (f := spec_ClauseOf_l1 (seenF l l.length)) (fun s : Int × List (Int × Int) => ∃ n : Nat, s.1 = (n : Int) + 1 ∧ n ≤ 12 ∧ s.2 = (litD (seenF l l.length) n).map (fun x => (1, x))) (fun s => 14 - s.1.toNat) (fun _ => (true, 1, (litsF l).map (fun x => (1, x)))) ?_ _ ⟨0, rfl, by omega, rfl⟩
      rintro ⟨s, o⟩ ⟨n, hs, hn, ho⟩
      dsimp only at hs ho ⊢
      subst hs
      subst ho
      have := hdl n
      unfold spec_ClauseOf_l1
      dsimp only
      rcases Nat.lt_or_ge n 12 with h4 | h4
      · left
        rw [cdec_pos (by omega), rq_pos ⟨by omega, by omega⟩, show ((n : Int) + 1).toNat = n + 1 by omega]
        by_cases q : (seenF l l.length).getD (n + 1) 0 = 0
        · rw [show ((seenF l l.length).getD (n + 1) 0 != 0) = false by rw [q]; rfl, cff, rq_i64 (by omega) (by omega)]
          refine ⟨_, rfl, ⟨n + 1, by simp, by omega, ?_⟩, by (try dsimp only) <;> omega, rfl⟩
          conv => rhs; unfold litD
          rw [if_pos q, List.append_nil]
        · rw [show ((seenF l l.length).getD (n + 1) 0 != 0) = true by rw [bne_iff_ne]; exact q, ctt, rq_pos ⟨by omega, by omega⟩, rq_pos (by simp [bound]; omega), rq_i64 (by omega) (by omega)]
          refine ⟨_, rfl, ⟨n + 1, by simp, by omega, ?_⟩, by (try dsimp only) <;> omega, rfl⟩
          conv => rhs; unfold litD
          rw [if_neg q, List.map_append]
          rfl
      · right
        have : n = 12 := by omega
        subst this
        rw [cdec_neg (by omega)]
        rfl
    rw [key]
    rfl

end Go.AE.Y
namespace Go.AE.Y
open Go Go.AE

/-! ### Copies, sizes, comparisons -/

/-! ### Valid problems -/

/-- A term and what stands before it. -/
def termAt (c : List (Int × Int)) (i : Nat) : Bool :=
  isLit (c.getD i (0, 0)).2 && ((decide (1 ≤ (c.getD i (0, 0)).1) && decide ((c.getD i (0, 0)).1 ≤ 1000)) && (i == 0 || decide (vof (c.getD (i - 1) (0, 0)).2 < vof (c.getD i (0, 0)).2)))
def conB (c : List (Int × Int) × Int) : Bool := (List.range c.1.length).all (termAt c.1) && (decide (0 ≤ c.2) && decide (c.2 ≤ 20000))

theorem termAt_lit {c : List (Int × Int)} {i : Nat} (h : termAt c i = true) : isLit (c.getD i (0, 0)).2 = true := by
  unfold termAt at h; simp only [Bool.and_eq_true] at h; exact h.1

theorem spec_ConstraintValid_eq (c : List (Int × Int) × Int) (h : c.1.length ≤ 4000000000) : spec_ConstraintValid c = some (conB c) := by
  unfold spec_ConstraintValid conB
  rw [loop_all c.1.length (termAt c.1) false (decide (0 ≤ c.2) && decide (c.2 ≤ 20000))]
  · cases (List.range c.1.length).all (termAt c.1)
    · rw [cond_false, Bool.false_and]
    · rw [cond_true, Bool.true_and]
  · intro i hi hpre
    unfold spec_ConstraintValid_l1 termAt
    simp (disch := omega) only [cdec_pos, rq_pos, spec_l1Lit_eq, Option.bind_some, Int.toNat_natCast]
    cases hl : isLit (c.1.getD i (0, 0)).2 with
    | false => simp
    | true =>
      have hl' := isLit_iff.1 hl
      rw [cnt, tand]
      by_cases h1 : (c.1.getD i (0, 0)).1 < 1
      · rw [cdec_pos h1, decide_eq_false (show ¬ 1 ≤ (c.1.getD i (0, 0)).1 by omega)]; simp
      · rw [cdec_neg h1, decide_eq_true (show 1 ≤ (c.1.getD i (0, 0)).1 by omega)]
        by_cases h2 : 1000 < (c.1.getD i (0, 0)).1
        · rw [cdec_pos h2, decide_eq_false (show ¬ (c.1.getD i (0, 0)).1 ≤ 1000 by omega)]; simp
        · rw [cdec_neg h2, decide_eq_true (show (c.1.getD i (0, 0)).1 ≤ 1000 by omega)]
          by_cases h0 : i = 0
          · subst h0
            simp (disch := omega) only [cdec_neg, rq_i64]
            simp
          · have hp1 := isLit_iff.1 (termAt_lit (hpre (i - 1) (by omega)))
            have e1 : ((i : Int) - 1).toNat = i - 1 := by omega
            rw [show (i == 0) = false by simpa using h0]
            simp (disch := omega) only [cdec_pos, rq_i64, rq_pos, e1, spec_l1Abs_eq, Option.bind_some]
            by_cases hv : vof (c.1.getD (i - 1) (0, 0)).2 < vof (c.1.getD i (0, 0)).2
            · rw [cdec_neg (by omega), decide_eq_true hv]; simp
            · rw [cdec_pos (by omega), decide_eq_false hv]; simp
  · unfold spec_ConstraintValid_l1
    simp (disch := omega) only [cdec_neg]
    by_cases h1 : 0 ≤ c.2
    · rw [cdec_pos h1, decide_eq_true h1]; simp
    · rw [cdec_neg h1, decide_eq_false h1]; simp

theorem impl_within_eq (n a b : Int) : impl_within n a b = some (decide (a ≤ n) && decide (n ≤ b)) := by
  unfold impl_within
  by_cases h : a ≤ n
  · rw [cdec_pos h, decide_eq_true h]; simp
  · rw [cdec_neg h, decide_eq_false h]; simp

theorem impl_ConstraintValid_eq (c : List (Int × Int) × Int) (h : c.1.length ≤ 4000000000) : impl_ConstraintValid c = some (conB c) := by
  unfold impl_ConstraintValid
  refine loop_fn (fun s : Int × Int => ∃ i : Nat, s.2 = i ∧ i ≤ c.1.length ∧ s.1 = (if i = 0 then 0 else vof (c.1.getD (i - 1) (0, 0)).2) ∧ ∀ j, j < i → termAt c.1 j = true) (fun s => c.1.length - s.2.toNat) (fun _ => conB c) ?_ _ ⟨0, rfl, Nat.zero_le _, rfl, fun j hj => by omega⟩
  rintro ⟨b, s⟩ ⟨i, rfl, hi, hb, hpre⟩
  dsimp only at hb ⊢
  unfold impl_ConstraintValid_l1
  rcases Nat.lt_or_ge i c.1.length with h1 | h1
  · have bad : termAt c.1 i = false → conB c = false := fun hq => by
      unfold conB
      rw [List.all_eq_false.2 ⟨i, List.mem_range.2 h1, by rw [hq]; simp⟩]
      rw [Bool.false_and]
    simp (disch := omega) only [cdec_pos, rq_pos, impl_isLiteral_eq, bind_s, Int.toNat_natCast]
    cases hl : isLit (c.1.getD i (0, 0)).2 with
    | false =>
      right
      rw [bad (by unfold termAt; rw [hl, Bool.false_and]), cnf]
    | true =>
      have hl' := isLit_iff.1 hl
      have hv1 : 1 ≤ vof (c.1.getD i (0, 0)).2 := by unfold vof; omega
      rw [cnt]
      rw [impl_variableOf_eq (by omega), bind_s]
      by_cases hv : vof (c.1.getD i (0, 0)).2 ≤ b
      · right
        rw [cdec_pos hv, bad ?_]
        unfold termAt
        by_cases h0 : i = 0
        · subst h0; rw [if_pos rfl] at hb; omega
        · rw [if_neg h0] at hb
          rw [show (i == 0) = false by simpa using h0, decide_eq_false (show ¬ vof (c.1.getD (i - 1) (0, 0)).2 < vof (c.1.getD i (0, 0)).2 by omega)]
          simp
      · rw [cdec_neg hv, impl_within_eq]
        rw [bind_s]
        cases hw : (decide (1 ≤ (c.1.getD i (0, 0)).1) && decide ((c.1.getD i (0, 0)).1 ≤ 1000)) with
        | false =>
          right
          rw [bad (by unfold termAt; rw [hw]; simp), cnf]
        | true =>
          left
          rw [cnt, bind_s, rq_i64 (by omega) (by omega)]
          refine ⟨_, rfl, ⟨i + 1, by simp, by omega, by simp, fun j hj => ?_⟩, by dsimp only; omega, trivial⟩
          rcases Nat.lt_or_ge j i with h2 | h2
          · exact hpre j h2
          · have : j = i := by omega
            subst this
            unfold termAt
            rw [hl, hw]
            by_cases h0 : j = 0
            · rw [show (j == 0) = true by simpa using h0]; simp
            · rw [if_neg h0] at hb
              rw [decide_eq_true (show vof (c.1.getD (j - 1) (0, 0)).2 < vof (c.1.getD j (0, 0)).2 by omega)]
              simp
  · right
    have : i = c.1.length := by omega
    subst this
    dsimp only
    rw [cdec_neg (by omega), impl_within_eq, bind_s]
    unfold conB
    rw [List.all_eq_true.2 (fun j hj => hpre j (List.mem_range.1 hj)), Bool.true_and]

/-! ### Violations -/

/-- What a constraint's terms come to. -/
def sumB (v : List Bool) (c : List (Int × Int)) : Int := c.foldl (fun a t => bif litB v t.2 then a + t.1 else a) 0
def evalB (v : List Bool) (c : List (Int × Int) × Int) : Bool := decide (c.2 ≤ sumB v c.1)

theorem conB_terms {c : List (Int × Int) × Int} (h : conB c = true) : ∀ i, i < c.1.length → ((c.1.getD i (0, 0)).2 ≠ 0 ∧ -12 ≤ (c.1.getD i (0, 0)).2 ∧ (c.1.getD i (0, 0)).2 ≤ 12) ∧ 1 ≤ (c.1.getD i (0, 0)).1 ∧ (c.1.getD i (0, 0)).1 ≤ 1000 := by
  intro i hi
  unfold conB at h
  simp only [Bool.and_eq_true, List.all_eq_true] at h
  have h1 := h.1 i (List.mem_range.2 hi)
  refine ⟨isLit_iff.1 (termAt_lit h1), ?_⟩
  unfold termAt at h1
  simp only [Bool.and_eq_true, decide_eq_true_eq] at h1
  exact h1.2.1

theorem impl_Constraint_holds_eq {c : List (Int × Int) × Int} {v : List Bool} (h : c.1.length ≤ 1048576) (hc : conB c = true) (hv : v.length = 12) : impl_Constraint_holds c v = some (evalB v c) := by
  have ht := conB_terms hc
  unfold impl_Constraint_holds evalB sumB
  rw [← foldl_range c.1 (0, 0) (fun a t => bif litB v t.2 then a + t.1 else a)]
  refine (loop_foldr c.1.length (fun i a => 0 ≤ a ∧ a ≤ 1000 * (i : Int)) (fun i a => bif litB v (c.1.getD i (0, 0)).2 then a + (c.1.getD i (0, 0)).1 else a) (fun a => decide (c.2 ≤ a)) 0 ⟨by omega, by omega⟩ ?_ ?_).1
  · rintro i a hi ⟨ha0, ha1⟩
    obtain ⟨t1, t2, t3⟩ := ht i hi
    unfold impl_Constraint_holds_l1
    simp (disch := omega) only [cdec_pos, rq_pos, Int.toNat_natCast]
    rw [impl_holds_eq t1 hv]
    cases litB v (c.1.getD i (0, 0)).2 with
    | true =>
      simp (disch := omega) only [Option.bind_some, rq_i64, cond_true]
      refine ⟨trivial, ?_⟩
      constructor <;> omega
    | false =>
      simp (disch := omega) only [Option.bind_some, rq_i64, cond_false]
      refine ⟨trivial, ?_⟩
      constructor <;> omega
  · intro a _
    unfold impl_Constraint_holds_l1
    simp (disch := omega) only [cdec_neg]

end Go.AE.Y
namespace Go.AE.Y
open Go Go.AE

end Go.AE.Y
namespace Go.AE.Y
open Go Go.AE

/-! ### Numbers -/

/-! ### Rows of numbers -/

/-! ### Rules -/

end Go.AE.Y
namespace Go.AE.Y
open Go Go.AE

/-- A step: its kind, its two numbers and its constraint. -/
abbrev StepT := Int × Int × Int × List (Int × Int) × Int
def smallS (s : StepT) : Prop := s.2.2.2.1.length ≤ 1048576

end Go.AE.Y
namespace Go.AE.Y
open Go Go.AE

/-! ### Copies of a problem -/

/-- A loop that appends a row's elements one by one. -/
theorem loop_push {α R : Type} {f : Int × List α → Option ((Int × List α) ⊕ R)} (l : List α) (d : α) (o0 : List α) (fin : List α → R)
    (h : ∀ (i : Nat) (out : List α), i < l.length → out.length = o0.length + i → f (i, out) = some (.inl ((i : Int) + 1, out ++ [l.getD i d]))) (hn : f (l.length, o0 ++ l) = some (.inr (fin (o0 ++ l)))) :
    loop f (0, o0) = some (fin (o0 ++ l)) := by
  refine loop_fn (fun s : Int × List α => ∃ i : Nat, s.1 = i ∧ i ≤ l.length ∧ s.2 = o0 ++ l.take i) (fun s => l.length - s.1.toNat) (fun _ => fin (o0 ++ l)) ?_ _ ⟨0, rfl, Nat.zero_le _, by simp⟩
  rintro ⟨s, out⟩ ⟨i, rfl, hi, ho⟩
  dsimp only at ho ⊢
  rcases Nat.lt_or_ge i l.length with h1 | h1
  · left
    refine ⟨_, h i out h1 (by rw [ho]; simp; omega), ⟨i + 1, by simp, by omega, ?_⟩, by dsimp only; omega, rfl⟩
    dsimp only
    rw [ho, List.take_succ_eq_append_getElem h1, List.append_assoc]
    congr 2
    simp [List.getD_eq_getElem?_getD, h1]
  · right
    have : i = l.length := by omega
    subst this
    rw [List.take_length] at ho
    rw [ho, hn]

/-! ### A problem under a cube -/

theorem loop_push_map {α β R : Type} {f : Int × List β → Option ((Int × List β) ⊕ R)} (l : List α) (d : α) (g : α → β) (o0 : List β) (fin : List β → R)
    (h : ∀ (i : Nat) (out : List β), i < l.length → out.length = o0.length + i → f (i, out) = some (.inl ((i : Int) + 1, out ++ [g (l.getD i d)]))) (hn : f (l.length, o0 ++ l.map g) = some (.inr (fin (o0 ++ l.map g)))) :
    loop f (0, o0) = some (fin (o0 ++ l.map g)) := by
  refine loop_push (l.map g) (g d) o0 fin (fun i out hi ho => ?_) (by rw [List.length_map]; exact hn)
  rw [List.length_map] at hi
  rw [h i out hi ho, getD_map l g i d (g d) hi]

theorem cubeB_len {c : List Int} (h : cubeB c = true) : c.length ≤ 4 := by
  unfold cubeB at h
  simp only [Bool.and_eq_true, decide_eq_true_eq] at h
  exact h.2

end Go.AE.Y
namespace Go.AE.Y
open Go Go.AE

end Go.AE.Y
namespace Go.AE.Y
open Go Go.AE

/-- A reader with bytes, that has given at most m numbers. -/
structure RdOk (r : List Int × Int) (m : Int) : Prop where
  byte : ∀ x ∈ r.1, 0 ≤ x ∧ x ≤ 255
  len : r.1.length ≤ 2000
  low : 0 ≤ r.2
  high : r.2 ≤ m

theorem getD_byte {b : List Int} (h : ∀ x ∈ b, 0 ≤ x ∧ x ≤ 255) (i : Nat) : 0 ≤ b.getD i 0 ∧ b.getD i 0 ≤ 255 := by
  rcases Nat.lt_or_ge i b.length with hi | hi
  · rw [List.getD_eq_getElem?_getD, List.getElem?_eq_getElem hi]
    exact h _ (List.getElem_mem hi)
  · rw [List.getD_eq_getElem?_getD, List.getElem?_eq_none hi]
    decide

theorem pick_ok {n : Int} {r : List Int × Int} (h : RdOk r 1000000000) :
    ∃ x, spec_l17Rd_pick n r = some (x, (r.1, r.2 + 1)) ∧ 0 ≤ x ∧ (1 ≤ n → x < n) ∧ (n < 1 → x = 0) := by
  obtain ⟨b, p⟩ := r
  obtain ⟨hb, hlen, hp1, hp2⟩ := h
  dsimp only at hb hlen hp1 hp2
  unfold spec_l17Rd_pick
  dsimp only
  simp (disch := omega) only [rq_i64]
  by_cases h1 : n < 1
  · simp (disch := omega) only [cdec_pos]
    exact ⟨0, rfl, by omega, by omega, fun _ => rfl⟩
  · simp (disch := omega) only [cdec_neg]
    by_cases h2 : b.length = 0
    · simp (disch := omega) only [cbeq_pos]
      exact ⟨0, rfl, by omega, by omega, fun _ => rfl⟩
    · simp (disch := omega) only [cbeq_neg, rq_i64]
      by_cases h3 : p < b.length
      · have e : p + 1 - 1 < (b.length : Int) := by omega
        have g := getD_byte hb (p + 1 - 1).toNat
        simp (disch := omega) only [cdec_pos, rq_pos, rq_i64]
        exact ⟨_, rfl, Int.emod_nonneg _ (by omega), fun _ => Int.emod_lt_of_pos _ (by omega), by omega⟩
      · have r1 := Int.emod_nonneg (p + 1 - 1) (show (b.length : Int) ≠ 0 by omega)
        have r2 := Int.emod_lt_of_pos (p + 1 - 1) (show (0 : Int) < b.length by omega)
        have r3 := Int.emod_nonneg ((p + 1 - 1) * 7 + 3) (show (b.length : Int) ≠ 0 by omega)
        have r4 := Int.emod_lt_of_pos ((p + 1 - 1) * 7 + 3) (show (0 : Int) < b.length by omega)
        have r5 : 0 ≤ (p + 1 - 1) / (b.length : Int) := Int.ediv_nonneg (by omega) (by omega)
        have r6 : (p + 1 - 1) / (b.length : Int) ≤ p + 1 - 1 := Int.ediv_le_self _ (by omega)
        have g1 := getD_byte hb ((p + 1 - 1) % (b.length : Int)).toNat
        have g2 := getD_byte hb (((p + 1 - 1) * 7 + 3) % (b.length : Int)).toNat
        generalize hu : b.getD ((p + 1 - 1) % (b.length : Int)).toNat 0 = u at g1 ⊢
        generalize hv : b.getD (((p + 1 - 1) * 7 + 3) % (b.length : Int)).toNat 0 = v at g2 ⊢
        generalize hq : (p + 1 - 1) / (b.length : Int) = q at r5 r6 ⊢
        simp (disch := omega) only [cdec_neg, rq_pos, rq_i64]
        exact ⟨_, rfl, Int.emod_nonneg _ (by omega), fun _ => Int.emod_lt_of_pos _ (by omega), by omega⟩

theorem RdOk.next {r : List Int × Int} {m k : Int} (h : RdOk r m) (hk : r.2 ≤ k) {m' : Int} (hm : k ≤ m') : RdOk (r.1, k) m' := ⟨h.byte, h.len, by have := h.low; dsimp only; omega, hm⟩

theorem num_ok {l : List Int} {r : List Int × Int} (h : RdOk r 1000000000) (hl : 1 ≤ l.length) : ∃ x, spec_l17Rd_num l r = some (x, (r.1, r.2 + 1)) ∧ x ∈ l := by
  unfold spec_l17Rd_num
  obtain ⟨x, h1, h2, h3, _⟩ := pick_ok (n := (l.length : Int)) h
  have h3 := h3 (by omega)
  rw [h1]
  simp only [Option.bind_some]
  rw [rq_pos ⟨h2, h3⟩]
  refine ⟨_, rfl, ?_⟩
  rw [List.getD_eq_getElem?_getD, List.getElem?_eq_getElem (by omega)]
  exact List.getElem_mem _

theorem open_ok {a : List Int} (h : ∀ x ∈ a, 0 ≤ x ∧ x ≤ 255) : ∃ r, spec_l17Open a = some r ∧ RdOk r 0 := by
  unfold spec_l17Open spec_l17Open_j1
  by_cases h1 : a.length ≤ 2000
  · simp (disch := omega) only [cdec_neg]
    exact ⟨_, rfl, h, h1, Int.le_refl _, Int.le_refl _⟩
  · simp (disch := omega) only [cdec_pos, rq_pos]
    exact ⟨_, rfl, fun x hx => h x (List.mem_of_mem_take hx), by simp; omega, Int.le_refl _, Int.le_refl _⟩

end Go.AE.Y
namespace Go.AE.Y
open Go Go.AE

/-- A short list of small numbers. -/
def small (n : Nat) (l : List Int) : Prop := l.length ≤ n ∧ ∀ x ∈ l, -13 ≤ x ∧ x ≤ 13

theorem spec_l12Draw_ok {r : List Int × Int} (h : RdOk r 900000000) : ∃ k l, spec_l12Draw r = some ((r.1, k), l) ∧ r.2 ≤ k ∧ k ≤ r.2 + 10 ∧ small 6 l := by
  unfold spec_l12Draw
  have key := loop_ex (f := spec_l12Draw_l1) (fun s => 1 ≤ s.1 ∧ s.1 ≤ 6 ∧ s.2.1 = (r.1, r.2 + (s.1 - 1)) ∧ small 3 s.2.2) (fun s => (6 - s.1).toNat) (fun o => ∃ k l, o = ((r.1, k), l) ∧ r.2 ≤ k ∧ k ≤ r.2 + 10 ∧ small 6 l) ?_ ((1 : Int), r, []) ⟨by (try dsimp only) <;> omega, by (try dsimp only) <;> omega, by simp, by simp, by simp⟩
  · obtain ⟨o, h1, k, l, rfl, h2⟩ := key
    exact ⟨k, l, h1, h2⟩
  rintro ⟨v, q, out⟩ ⟨h1, h2, h3, h4⟩
  dsimp only at h1 h2 h3 h4
  subst h3
  unfold spec_l12Draw_l1
  by_cases h5 : v ≤ 5
  · left
    obtain ⟨x, k1, _⟩ := pick_ok (n := 2) (r := (r.1, r.2 + (v - 1))) (h.next (by (try dsimp only) <;> omega) (by have := h.high; omega))
    simp (disch := omega) only [cdec_pos, k1, Option.bind_some, rq_i64]
    have e : r.2 + (v - 1) + 1 = r.2 + (v + 1 - 1) := by omega
    cases hx : (x == 0) with
    | false =>
      refine ⟨_, rfl, ⟨by (try dsimp only) <;> omega, by (try dsimp only) <;> omega, by dsimp only; rw [e], h4⟩, by (try dsimp only) <;> omega⟩
    | true =>
      simp only [cond_true]
      by_cases h6 : out.length < 3
      · simp (disch := omega) only [cdec_pos]
        rw [rq_pos (by simp [bound]; omega)]
        refine ⟨_, rfl, ⟨by (try dsimp only) <;> omega, by (try dsimp only) <;> omega, by dsimp only; rw [e], by simp; omega, ?_⟩, by (try dsimp only) <;> omega⟩
        intro y hy
        rcases List.mem_append.1 hy with hy | hy
        · exact h4.2 y hy
        · rw [List.mem_singleton.1 hy]; omega
      · simp (disch := omega) only [cdec_neg]
        refine ⟨_, rfl, ⟨by (try dsimp only) <;> omega, by (try dsimp only) <;> omega, by dsimp only; rw [e], h4⟩, by (try dsimp only) <;> omega⟩
  · right
    have : v = 6 := by omega
    subst this
    have hlen := h4.1
    simp (disch := omega) only [cdec_neg]
    unfold spec_l12Draw_j1
    obtain ⟨x, k1, _⟩ := pick_ok (n := 30) (r := (r.1, r.2 + (6 - 1))) (h.next (by (try dsimp only) <;> omega) (by have := h.high; omega))
    simp only [k1, Option.bind_some]
    cases (x == 0) with
    | true =>
      obtain ⟨y, k2, k3⟩ := num_ok (l := [1, 13, 0, -2]) (r := (r.1, r.2 + (6 - 1) + 1)) (h.next (by (try dsimp only) <;> omega) (by have := h.high; omega)) (by decide)
      simp only [cond_true, k2, Option.bind_some]
      rw [rq_pos (by simp [bound]; omega)]
      refine ⟨_, rfl, _, _, rfl, by (try dsimp only) <;> omega, by (try dsimp only) <;> omega, by simp; omega, ?_⟩
      intro z hz
      rcases List.mem_append.1 hz with hz | hz
      · exact h4.2 z hz
      · rw [List.mem_singleton.1 hz]
        simp only [List.mem_cons, List.not_mem_nil, or_false] at k3
        omega
    | false =>
      cases (x == 1) with
      | true => exact ⟨_, rfl, _, _, rfl, by (try dsimp only) <;> omega, by (try dsimp only) <;> omega, by decide, by decide⟩
      | false =>
        cases (x == 2) with
        | true => exact ⟨_, rfl, _, _, rfl, by (try dsimp only) <;> omega, by (try dsimp only) <;> omega, by decide, by decide⟩
        | false => exact ⟨_, rfl, _, _, rfl, by (try dsimp only) <;> omega, by (try dsimp only) <;> omega, by omega, h4.2⟩

theorem small_set {n : Nat} {l : List Int} {i : Nat} {x : Int} (h : small n l) (hx : -13 ≤ x ∧ x ≤ 13) : small n (l.set i x) := by
  refine ⟨by rw [List.length_set]; exact h.1, fun y hy => ?_⟩
  rcases List.mem_or_eq_of_mem_set hy with hy | rfl
  · exact h.2 y hy
  · exact hx

theorem spec_l12Signed_ok {r : List Int × Int} (h : RdOk r 800000000) : ∃ k l, spec_l12Signed r = some ((r.1, k), l) ∧ r.2 ≤ k ∧ k ≤ r.2 + 20 ∧ small 6 l := by
  unfold spec_l12Signed
  obtain ⟨k0, l0, h1, h2, h3, h4⟩ := spec_l12Draw_ok (r := r) ⟨h.byte, h.len, h.low, by have := h.high; omega⟩
  rw [h1]
  simp only [Option.bind_some]
  have key := loop_ex (f := spec_l12Signed_l1) (fun s => 0 ≤ s.1 ∧ s.1 ≤ s.2.2.length ∧ s.2.1 = (r.1, k0 + s.1) ∧ small 6 s.2.2) (fun s => (s.2.2.length - s.1).toNat) (fun o => ∃ k l, o = ((r.1, k), l) ∧ r.2 ≤ k ∧ k ≤ r.2 + 20 ∧ small 6 l) ?_ ((0 : Int), (r.1, k0), l0) ⟨by (try dsimp only) <;> omega, by (try dsimp only) <;> omega, by simp, h4⟩
  · obtain ⟨o, h1, k, l, rfl, h2⟩ := key
    exact ⟨k, l, h1, h2⟩
  rintro ⟨i, q, out⟩ ⟨p1, p2, p3, p4⟩
  dsimp only at p1 p2 p3 p4
  subst p3
  have hlen := p4.1
  unfold spec_l12Signed_l1
  by_cases h5 : i < (out.length : Int)
  · left
    have hm := p4.2 _ (getD_mem (l := out) (d := 0) (i := i.toNat) (by omega))
    obtain ⟨x, k1, _⟩ := pick_ok (n := 2) (r := (r.1, k0 + i)) (h.next (by (try dsimp only) <;> omega) (by have := h.high; omega))
    simp (disch := omega) only [cdec_pos, k1, Option.bind_some, rq_i64]
    have e : k0 + i + 1 = k0 + (i + 1) := by omega
    cases hx : (x == 0) with
    | false =>
      refine ⟨_, rfl, ⟨by (try dsimp only) <;> omega, by (try dsimp only) <;> omega, by dsimp only; rw [e], p4⟩, by (try dsimp only) <;> omega⟩
    | true =>
      simp (disch := omega) only [cond_true, rq_pos]
      refine ⟨_, rfl, ⟨by (try dsimp only) <;> omega, by dsimp only; rw [List.length_set]; omega, by dsimp only; rw [e], small_set p4 (by omega)⟩, by dsimp only; rw [List.length_set]; omega⟩
  · right
    simp (disch := omega) only [cdec_neg]
    exact ⟨_, rfl, _, _, rfl, by omega, by omega, p4⟩

theorem spec_l1Values_ok {r : List Int × Int} (h : RdOk r 900000000) : ∃ k l, spec_l1Values r = some ((r.1, k), l) ∧ r.2 ≤ k ∧ k ≤ r.2 + 20 ∧ l.length ≤ 12 := by
  unfold spec_l1Values
  have key := loop_ex (f := spec_l1Values_l1) (fun s => 0 ≤ s.1 ∧ s.1 ≤ 12 ∧ s.2.1 = (r.1, r.2 + s.1) ∧ (s.2.2.length : Int) = s.1) (fun s => (12 - s.1).toNat) (fun o => ∃ k l, o = ((r.1, k), l) ∧ r.2 ≤ k ∧ k ≤ r.2 + 20 ∧ l.length ≤ 12) ?_ ((0 : Int), r, []) ⟨by (try dsimp only) <;> omega, by (try dsimp only) <;> omega, by simp, by simp⟩
  · obtain ⟨o, h1, k, l, rfl, h2⟩ := key
    exact ⟨k, l, h1, h2⟩
  rintro ⟨i, q, out⟩ ⟨p1, p2, p3, p4⟩
  dsimp only at p1 p2 p3 p4
  subst p3
  unfold spec_l1Values_l1
  by_cases h5 : i < 12
  · left
    obtain ⟨x, k1, _⟩ := pick_ok (n := 2) (r := (r.1, r.2 + i)) (h.next (by have := h.low; omega) (by have := h.high; omega))
    simp (disch := omega) only [cdec_pos, k1, Option.bind_some, rq_i64]
    rw [rq_pos (by simp [bound]; omega)]
    refine ⟨_, rfl, ⟨by (try dsimp only) <;> omega, by (try dsimp only) <;> omega, by dsimp only; rw [show r.2 + i + 1 = r.2 + (i + 1) by omega], by simp; omega⟩, by (try dsimp only) <;> omega⟩
  · right
    have : i = 12 := by omega
    subst this
    simp (disch := omega) only [cdec_neg]
    unfold spec_l1Values_j1
    obtain ⟨x, k1, _⟩ := pick_ok (n := 40) (r := (r.1, r.2 + 12)) (h.next (by (try dsimp only) <;> omega) (by have := h.high; omega))
    simp only [k1, Option.bind_some]
    cases (x == 0) with
    | true =>
      simp (disch := omega) only [cond_true, rq_pos]
      exact ⟨_, rfl, _, _, rfl, by (try dsimp only) <;> omega, by (try dsimp only) <;> omega, by simp; omega⟩
    | false => exact ⟨_, rfl, _, _, rfl, by (try dsimp only) <;> omega, by (try dsimp only) <;> omega, by omega⟩

theorem spec_DrawCubeHolds_ok {a : List Int} (h : ∀ x ∈ a, 0 ≤ x ∧ x ≤ 255) : ∃ c v, spec_DrawCubeHolds a = some (c, v) ∧ small 6 c ∧ v.length ≤ 12 := by
  unfold spec_DrawCubeHolds
  obtain ⟨r, h1, h2⟩ := open_ok h
  rw [h1]
  simp only [Option.bind_some]
  have hr0 : r.2 = 0 := by have := h2.low; have := h2.high; omega
  obtain ⟨k, c, h3, h4, h5, h6⟩ := spec_l12Signed_ok (r := r) ⟨h2.byte, h2.len, h2.low, by omega⟩
  rw [h3]
  simp only [Option.bind_some]
  obtain ⟨k', v, h7, h8, h9, h10⟩ := spec_l1Values_ok (r := (r.1, k)) ⟨h2.byte, h2.len, by (try dsimp only) <;> omega, by (try dsimp only) <;> omega⟩
  dsimp only at h8 h9
  rw [h7]
  simp only [Option.bind_some]
  have key := loop_ex (f := spec_DrawCubeHolds_l1 ((r.1, k), c)) (fun s => 0 ≤ s.1 ∧ s.1 ≤ c.length ∧ s.2.1 = (r.1, k' + s.1) ∧ s.2.2.length ≤ 12) (fun s => (c.length - s.1).toNat) (fun o => ∃ v, o = (c, v) ∧ v.length ≤ 12) ?_ ((0 : Int), (r.1, k'), v) ⟨by (try dsimp only) <;> omega, by (try dsimp only) <;> omega, by simp, h10⟩
  · obtain ⟨o, q1, v, rfl, q2⟩ := key
    exact ⟨c, v, q1, h6, q2⟩
  rintro ⟨i, q, vs⟩ ⟨p1, p2, p3, p4⟩
  dsimp only at p1 p2 p3 p4
  subst p3
  have hlen := h6.1
  unfold spec_DrawCubeHolds_l1 spec_DrawCubeHolds_j1
  by_cases h5 : i < (c.length : Int)
  · have hm := h6.2 _ (getD_mem (l := c) (d := 0) (i := i.toNat) (by omega))
    obtain ⟨x, k1, _⟩ := pick_ok (n := 6) (r := (r.1, k' + i)) ⟨h2.byte, h2.len, by (try dsimp only) <;> omega, by (try dsimp only) <;> omega⟩
    simp (disch := omega) only [cdec_pos, k1, Option.bind_some, rq_i64]
    by_cases hx : 0 < x
    · left
      have ev : 0 ≤ vof (c.getD i.toNat 0) ∧ vof (c.getD i.toNat 0) ≤ 13 := by unfold vof; omega
      simp (disch := omega) only [cdec_pos, rq_pos, spec_l1Abs_eq, Option.bind_some, rq_i64]
      by_cases h6 : 1 ≤ vof (c.getD i.toNat 0)
      · simp (disch := omega) only [cdec_pos]
        by_cases h7 : vof (c.getD i.toNat 0) ≤ (vs.length : Int)
        · simp (disch := omega) only [cdec_pos, rq_pos]
          refine ⟨_, rfl, ⟨by (try dsimp only) <;> omega, by (try dsimp only) <;> omega, by dsimp only; rw [show k' + i + 1 = k' + (i + 1) by omega], by simp; omega⟩, by (try dsimp only) <;> omega⟩
        · simp (disch := omega) only [cdec_neg]
          refine ⟨_, rfl, ⟨by (try dsimp only) <;> omega, by (try dsimp only) <;> omega, by dsimp only; rw [show k' + i + 1 = k' + (i + 1) by omega], by omega⟩, by (try dsimp only) <;> omega⟩
      · simp (disch := omega) only [cdec_neg]
        refine ⟨_, rfl, ⟨by (try dsimp only) <;> omega, by (try dsimp only) <;> omega, by dsimp only; rw [show k' + i + 1 = k' + (i + 1) by omega], by omega⟩, by (try dsimp only) <;> omega⟩
    · right
      simp (disch := omega) only [cdec_neg]
      exact ⟨_, rfl, _, rfl, p4⟩
  · right
    simp (disch := omega) only [cdec_neg]
    exact ⟨_, rfl, _, rfl, p4⟩

end Go.AE.Y
namespace Go.AE.Y
open Go Go.AE

/-! ### Of the cubes, one holds -/

end Go.AE.Y
namespace Go.AE.Y
open Go Go.AE

/-- The reader has gone on by at most c. -/
def Adv (r r' : List Int × Int) (c : Int) : Prop := r'.1 = r.1 ∧ r.2 ≤ r'.2 ∧ r'.2 ≤ r.2 + c

theorem Adv.ok {r r' : List Int × Int} {m m' c : Int} (h : RdOk r m) (a : Adv r r' c) (hm : m + c ≤ m') : RdOk r' m' := by
  obtain ⟨a1, a2, a3⟩ := a
  have := h.low
  have := h.high
  exact ⟨by rw [a1]; exact h.byte, by rw [a1]; exact h.len, by omega, by omega⟩
theorem Adv.refl (r : List Int × Int) {c : Int} (h : 0 ≤ c) : Adv r r c := ⟨rfl, Int.le_refl _, by omega⟩
theorem Adv.trans {r r' r'' : List Int × Int} {c c' d : Int} (a : Adv r r' c) (b : Adv r' r'' c') (h : c + c' ≤ d) : Adv r r'' d := by
  obtain ⟨a1, a2, a3⟩ := a
  obtain ⟨b1, b2, b3⟩ := b
  exact ⟨b1.trans a1, by omega, by omega⟩

theorem pick_adv {r : List Int × Int} (n : Int) (h : RdOk r 1000000000) : ∃ x r', spec_l17Rd_pick n r = some (x, r') ∧ Adv r r' 1 ∧ 0 ≤ x ∧ (1 ≤ n → x < n) := by
  obtain ⟨x, h1, h2, h3, _⟩ := pick_ok (n := n) h
  exact ⟨x, _, h1, ⟨rfl, by (try dsimp only) <;> omega, by (try dsimp only) <;> omega⟩, h2, h3⟩
theorem num_adv {l : List Int} {r : List Int × Int} (h : RdOk r 1000000000) (hl : 1 ≤ l.length) : ∃ x r', spec_l17Rd_num l r = some (x, r') ∧ Adv r r' 1 ∧ x ∈ l := by
  obtain ⟨x, h1, h2⟩ := num_ok h hl
  exact ⟨x, _, h1, ⟨rfl, by (try dsimp only) <;> omega, by (try dsimp only) <;> omega⟩, h2⟩

theorem spec_l1Total_ok {c : List (Int × Int)} {n : Nat} (hl : c.length ≤ n) (hn : n ≤ 1000) (hc : ∀ t ∈ c, 0 ≤ t.1 ∧ t.1 ≤ 5) (b : Int) : ∃ s, spec_l1Total (c, b) = some s ∧ 0 ≤ s ∧ s ≤ 5000 := by
  unfold spec_l1Total
  refine loop_ex (fun s : Int × Int => ∃ i : Nat, s.2 = i ∧ i ≤ c.length ∧ 0 ≤ s.1 ∧ s.1 ≤ 5 * i) (fun s => c.length - s.2.toNat) (fun s => 0 ≤ s ∧ s ≤ 5000) ?_ _ ⟨0, rfl, Nat.zero_le _, by (try dsimp only) <;> omega, by (try dsimp only) <;> omega⟩
  rintro ⟨s, k⟩ ⟨i, rfl, hi, h0, h1⟩
  dsimp only at h0 h1 ⊢
  unfold spec_l1Total_l1
  rcases Nat.lt_or_ge i c.length with h2 | h2
  · left
    have := hc _ (getD_mem (d := (0, 0)) h2)
    simp (disch := omega) only [cdec_pos, rq_pos, Int.toNat_natCast, rq_i64]
    exact ⟨_, rfl, ⟨i + 1, by simp, by omega, by (try dsimp only) <;> omega, by dsimp only; omega⟩, by dsimp only; omega⟩
  · right
    simp (disch := omega) only [cdec_neg]
    exact ⟨_, rfl, by omega, by omega⟩

theorem spec_l1Draw_ok {most : Int} {r : List Int × Int} (h : RdOk r 900000000) (hm : 1 ≤ most ∧ most ≤ 12) : ∃ r' b ts, spec_l1Draw most r = some (r', b, ts) ∧ Adv r r' 50 ∧ ts.length ≤ 12 ∧ ∀ t ∈ ts, 0 ≤ t.1 ∧ t.1 ≤ 5 := by
  unfold spec_l1Draw
  have key := loop_ex (f := spec_l1Draw_l1 most) (fun s => 1 ≤ s.1 ∧ s.1 ≤ most + 1 ∧ Adv r s.2.1 (3 * (s.1 - 1)) ∧ (s.2.2.length : Int) ≤ s.1 - 1 ∧ ∀ t ∈ s.2.2, 0 ≤ t.1 ∧ t.1 ≤ 5) (fun s => (most + 1 - s.1).toNat)
    (fun o => Adv r o.1 50 ∧ o.2.2.length ≤ 12 ∧ ∀ t ∈ o.2.2, 0 ≤ t.1 ∧ t.1 ≤ 5) ?_ ((1 : Int), r, []) ⟨by (try dsimp only) <;> omega, by (try dsimp only) <;> omega, Adv.refl r (by (try dsimp only) <;> omega), by simp, by simp⟩
  · obtain ⟨⟨r', b, ts⟩, h1, h2, h3⟩ := key
    exact ⟨r', b, ts, h1, h2, h3⟩
  rintro ⟨v, q, c0⟩ ⟨h1, h2, h3, h4, h5⟩
  dsimp only at h1 h2 h3 h4 h5 ⊢
  have hq : RdOk q 900000036 := h3.ok h (by omega)
  unfold spec_l1Draw_l1
  by_cases h6 : v ≤ most
  · left
    obtain ⟨x, q1, e1, a1, _⟩ := pick_adv 2 (r := q) ⟨hq.byte, hq.len, hq.low, by have := hq.high; omega⟩
    dsimp only
    rw [cdec_pos h6, e1, bind_s]
    cases (x == 0) with
    | false =>
      dsimp only
      rw [cff, rq_i64 (by omega) (by omega)]
      exact ⟨_, rfl, ⟨by (try dsimp only) <;> omega, by (try dsimp only) <;> omega, h3.trans a1 (by (try dsimp only) <;> omega), by (try dsimp only) <;> omega, h5⟩, by (try dsimp only) <;> omega⟩
    | true =>
      have hq1 : RdOk q1 900000037 := a1.ok hq (by omega)
      obtain ⟨y, q2, e2, a2, m2⟩ := num_adv (l := [1, 1, 2, 3, 1, 5, 4]) (r := q1) ⟨hq1.byte, hq1.len, hq1.low, by have := hq1.high; omega⟩ (by decide)
      have hq2 : RdOk q2 900000038 := a2.ok hq1 (by omega)
      obtain ⟨z, q3, e3, a3, _⟩ := pick_adv 2 (r := q2) ⟨hq2.byte, hq2.len, hq2.low, by have := hq2.high; omega⟩
      have hy : 0 ≤ y ∧ y ≤ 5 := by
        simp only [List.mem_cons, List.not_mem_nil, or_false] at m2
        omega
      have a4 : Adv r q3 (3 * (v + 1 - 1)) := (h3.trans a1 (Int.le_refl _)).trans (a2.trans a3 (Int.le_refl _)) (by omega)
      dsimp only
      rw [ctt, e2, bind_s, e3, bind_s]
      have fin : ∀ w : Int, ∃ s', spec_l1Draw_j2 v c0 (q3, (y, w)) = some (.inl s') ∧ (1 ≤ s'.1 ∧ s'.1 ≤ most + 1 ∧ Adv r s'.2.1 (3 * (s'.1 - 1)) ∧ (s'.2.2.length : Int) ≤ s'.1 - 1 ∧ ∀ t ∈ s'.2.2, 0 ≤ t.1 ∧ t.1 ≤ 5) ∧ (most + 1 - s'.1).toNat < (most + 1 - v).toNat := fun w => by
        unfold spec_l1Draw_j2
        dsimp only
        rw [rq_pos (by simp [bound]; omega), rq_i64 (by omega) (by omega)]
        refine ⟨_, rfl, ⟨by (try dsimp only) <;> omega, by (try dsimp only) <;> omega, a4, by simp; omega, fun t ht => ?_⟩, by (try dsimp only) <;> omega⟩
        rcases List.mem_append.1 ht with ht | ht
        · exact h5 t ht
        · rw [List.mem_singleton.1 ht]; exact hy
      dsimp only
      cases (z == 0) with
      | true => rw [ctt, rq_i64 (by omega) (by omega)]; exact fin _
      | false => rw [cff]; exact fin _
  · right
    obtain ⟨s, t1, t2, t3⟩ := spec_l1Total_ok (c := c0) (n := 12) (by omega) (by omega) h5 0
    obtain ⟨x, q1, e1, a1, _⟩ := num_adv (l := [1, 2, 1, 3, 0]) (r := q) ⟨hq.byte, hq.len, hq.low, by have := hq.high; omega⟩ (by decide)
    have hq1 : RdOk q1 900000037 := a1.ok hq (by omega)
    obtain ⟨y, q2, e2, a2, _⟩ := pick_adv 4 (r := q1) ⟨hq1.byte, hq1.len, hq1.low, by have := hq1.high; omega⟩
    have hq2 : RdOk q2 900000038 := a2.ok hq1 (by omega)
    obtain ⟨z, q3, e3, a3, _⟩ := pick_adv (s + 2) (r := q2) ⟨hq2.byte, hq2.len, hq2.low, by have := hq2.high; omega⟩
    dsimp only
    rw [cdec_neg h6]
    unfold spec_l1Draw_j1
    dsimp only
    rw [t1, bind_s, e1, bind_s, e2, bind_s]
    dsimp only
    cases (y == 0) with
    | true =>
      rw [ctt, rq_i64 (by omega) (by omega), e3, bind_s]
      exact ⟨_, rfl, (h3.trans a1 (Int.le_refl _)).trans (a2.trans a3 (Int.le_refl _)) (by omega), by (try dsimp only) <;> omega, h5⟩
    | false =>
      rw [cff]
      exact ⟨_, rfl, (h3.trans a1 (Int.le_refl _)).trans a2 (by omega), by (try dsimp only) <;> omega, h5⟩

end Go.AE.Y
namespace Go.AE.Y
open Go Go.AE

abbrev StepR := Bool × Int × Int × Int × Int × List (Int × Int)
def noStep : StepR := (false, 0, 0, 0, 0, [])
def oneT (t : Int × Int) : Bool := t.1 == 1
def okStep (s : StepT) : Bool := (s.1 == 7 && (s.2.1 == 0 && s.2.2.1 == 0)) && (s.2.2.2.1.all oneT && (conB s.2.2.2 && s.2.2.2.2 == 1))
def negL (c : List Int) : List Int := c.map (fun x => 0 - x)
def litsS (s : StepT) : List Int := s.2.2.2.1.map (fun t => t.2)
def putB (c : Bool × Int × List (Int × Int)) : StepR := bif c.1 then (true, 7, 0, 0, c.2.1, c.2.2) else noStep
def liftB (s : StepT) (c : List Int) : StepR := bif okStep s then putB (clauseB (litsS s ++ negL c)) else noStep

theorem impl_negations_eq (c : List Int) (h : c.length ≤ 1048576) (hl : ∀ x ∈ c, -12 ≤ x ∧ x ≤ 12) : impl_negations c = some (negL c) := by
  unfold impl_negations negL
  refine (loop_push_map (f := impl_negations_l1 c) c 0 (fun x => 0 - x) [] (fun o => o) (fun i out hi ho => ?_) ?_).trans (by simp)
  · have := hl _ (getD_mem (l := c) (i := i) (d := 0) hi)
    unfold impl_negations_l1
    dsimp only
    rw [cdec_pos (by omega), rq_pos ⟨by omega, by omega⟩, Int.toNat_natCast, rq_i64 (by omega) (by omega), rq_pos (by simp only [bound, List.length_cons, List.length_nil]; simp at ho; omega), rq_i64 (by omega) (by omega)]
  · unfold impl_negations_l1
    dsimp only
    rw [cdec_neg (by omega)]

theorem all_snoc_bad {α : Type} {l : List α} {p : α → Bool} {i : Nat} (d : α) (h : i < l.length) (hb : p (l.getD i d) = false) : l.all p = false := by
  rw [List.all_eq_false]
  exact ⟨_, getD_mem (d := d) h, by rw [hb]; decide⟩

theorem all_of_at {α : Type} {l : List α} {p : α → Bool} (d : α) (h : ∀ j, j < l.length → p (l.getD j d) = true) : l.all p = true := by
  rw [List.all_eq_true]
  intro x hx
  obtain ⟨j, hj, rfl⟩ := List.mem_iff_getElem.1 hx
  have := h j hj
  rwa [List.getD_eq_getElem?_getD, List.getElem?_eq_getElem hj] at this

theorem spec_l12Clause_eq (c : List (Int × Int) × Int) (h : c.1.length ≤ 1048576) : spec_l12Clause c = some (bif c.1.all oneT then (conB c && c.2 == 1, c.1.map (fun t => t.2)) else (false, [])) := by
  unfold spec_l12Clause
  refine loop_fn (f := spec_l12Clause_l1 c) (fun s : Int × List Int => ∃ i : Nat, s.1 = i ∧ i ≤ c.1.length ∧ s.2 = (c.1.take i).map (fun t => t.2) ∧ ∀ j, j < i → oneT (c.1.getD j (0, 0)) = true) (fun s => c.1.length - s.1.toNat) (fun _ => bif c.1.all oneT then (conB c && c.2 == 1, c.1.map (fun t => t.2)) else (false, [])) ?_ ((0 : Int), ([] : List Int)) ⟨0, rfl, Nat.zero_le _, rfl, fun j hj => by omega⟩
  rintro ⟨s, o⟩ ⟨i, rfl, hi, rfl, hp⟩
  dsimp only
  unfold spec_l12Clause_l1
  dsimp only
  rcases Nat.lt_or_ge i c.1.length with h1 | h1
  · rw [cdec_pos (by omega), rq_pos ⟨by omega, by omega⟩, Int.toNat_natCast]
    by_cases q : (c.1.getD i (0, 0)).1 = 1
    · left
      rw [cbne_neg q, rq_pos ⟨by omega, by omega⟩, rq_pos (by simp [bound]; omega), rq_i64 (by omega) (by omega)]
      refine ⟨_, rfl, ⟨i + 1, by simp, by omega, ?_, fun j hj => ?_⟩, by (try dsimp only) <;> omega, rfl⟩
      · dsimp only
        rw [List.take_add_one, List.getElem?_eq_getElem h1, List.map_append, List.getD_eq_getElem?_getD, List.getElem?_eq_getElem h1]
        rfl
      · rcases Nat.lt_or_ge j i with h2 | h2
        · exact hp j h2
        · rw [show j = i by omega]; exact beq_iff_eq.2 q
    · right
      rw [cbne_pos q, all_snoc_bad (p := oneT) (0, 0) h1 (beq_eq_false_iff_ne.2 q), cff]
  · right
    have : i = c.1.length := by omega
    subst this
    unfold spec_l12Clause_j1
    rw [cdec_neg (by omega), List.take_length, spec_ConstraintValid_eq c (by omega), bind_s, all_of_at (0, 0) hp, ctt]
    cases conB c with
    | true => rw [ctt, Bool.true_and]; rfl
    | false => rw [cff, Bool.false_and]; rfl

theorem putB_model (c : Bool × Int × List (Int × Int)) : (cond (!c.1) (some (false, (0:Int), (0:Int), (0:Int), (0:Int), ([] : List (Int × Int)))) (some (true, (7:Int), (0:Int), (0:Int), c.2.1, c.2.2)) : Option StepR) = some (putB c) := by
  unfold putB noStep
  cases c.1 <;> rfl

theorem okStep_not {s : StepT} (h : ¬ (s.1 = 7 ∧ s.2.1 = 0 ∧ s.2.2.1 = 0 ∧ s.2.2.2.1.all oneT = true ∧ conB s.2.2.2 = true ∧ s.2.2.2.2 = 1)) : okStep s = false := by
  cases hq : okStep s with
  | false => rfl
  | true =>
    exfalso
    apply h
    unfold okStep at hq
    simp only [Bool.and_eq_true, beq_iff_eq] at hq
    exact ⟨hq.1.1, hq.1.2.1, hq.1.2.2, hq.2.1, hq.2.2.1, hq.2.2.2⟩

theorem spec_l12Lift_eq (s : StepT) (c : List Int) (hs : smallS s) (hc : c.length ≤ 1048576) (hl : ∀ x ∈ c, -12 ≤ x ∧ x ≤ 12) : spec_l12Lift s c = some (liftB s c) := by
  unfold smallS at hs
  unfold spec_l12Lift liftB
  rw [spec_l12Clause_eq s.2.2.2 (by omega), bind_s]
  by_cases q1 : s.1 = 7
  case neg => rw [cbne_pos q1, okStep_not (fun h => q1 h.1), cff]; rfl
  by_cases q2 : s.2.1 = 0
  case neg => rw [cbne_neg q1, cbne_pos q2, okStep_not (fun h => q2 h.2.1), cff]; rfl
  by_cases q3 : s.2.2.1 = 0
  case neg => rw [cbne_neg q1, cbne_neg q2, cbne_pos q3, okStep_not (fun h => q3 h.2.2.1), cff]; rfl
  rw [cbne_neg q1, cbne_neg q2, cbne_neg q3]
  cases q4 : s.2.2.2.1.all oneT with
  | false => rw [cff, okStep_not (fun h => by rw [q4] at h; exact absurd h.2.2.2.1 (by decide)), cff]; rfl
  | true =>
    rw [ctt]
    cases q5 : conB s.2.2.2 && s.2.2.2.2 == 1 with
    | false =>
      rw [okStep_not (fun h => by rw [h.2.2.2.2.1, h.2.2.2.2.2] at q5; exact absurd q5 (by decide)), cff]
      rfl
    | true =>
      have hok : okStep s = true := by unfold okStep; rw [q1, q2, q3, q4, q5]; rfl
      rw [hok, ctt]
      dsimp only
      rw [Bool.not_true, cff]
      have hlen : (litsS s).length = s.2.2.2.1.length := List.length_map ..
      refine (loop_push_map (f := spec_l12Lift_l1 c) c 0 (fun x => 0 - x) (litsS s) (fun o => putB (clauseB o)) (fun i out hi ho => ?_) ?_).trans rfl
      · have := hl _ (getD_mem (l := c) (i := i) (d := 0) hi)
        unfold spec_l12Lift_l1
        dsimp only
        rw [cdec_pos (by omega), rq_pos ⟨by omega, by omega⟩, Int.toNat_natCast, rq_i64 (by omega) (by omega), rq_pos (by simp only [bound, List.length_cons, List.length_nil]; omega), rq_i64 (by omega) (by omega)]
      · unfold spec_l12Lift_l1 spec_l12Lift_j1
        dsimp only
        rw [cdec_neg (by omega), spec_ClauseOf_eq _ (by rw [List.length_append, List.length_map]; omega), bind_s, putB_model]
        rfl

def liftC (s : StepT) (c : List Int) : StepR := bif cubeB c then liftB s c else noStep

theorem cubeB_in {c : List Int} (h : cubeB c = true) : c.length ≤ 4 ∧ ∀ x ∈ c, -12 ≤ x ∧ x ≤ 12 := ⟨cubeB_len h, fun x hx => (cubeB_lits h x hx).2⟩

theorem spec_LiftStep_eq (s : StepT) (c : List Int) (hs : smallS s) (hc : c.length ≤ 1048576) : spec_LiftStep s c = some (liftC s c) := by
  unfold spec_LiftStep liftC
  rw [spec_l12Cube_eq c (by omega), bind_s]
  cases hq : cubeB c with
  | false => rw [cnf, cff]; rfl
  | true =>
    rw [cnt, ctt, spec_l12Lift_eq s c hs hc (cubeB_in hq).2, bind_s]

theorem impl_LiftStep_eq (s : StepT) (c : List Int) (hs : smallS s) (hc : c.length ≤ 1048576) : impl_LiftStep s c = some (liftC s c) := by
  unfold smallS at hs
  have hno : ∀ b : StepR, okStep s = false → liftC s c = noStep := fun _ h => by unfold liftC liftB; rw [h, cff]; cases cubeB c <;> rfl
  unfold impl_LiftStep
  by_cases q1 : s.1 = 7
  case neg => rw [cbne_pos q1, hno noStep (okStep_not (fun h => q1 h.1))]; rfl
  by_cases q2 : s.2.1 = 0
  case neg => rw [cbne_neg q1, cbne_pos q2, hno noStep (okStep_not (fun h => q2 h.2.1))]; rfl
  by_cases q3 : s.2.2.1 = 0
  case neg => rw [cbne_neg q1, cbne_neg q2, cbne_pos q3, hno noStep (okStep_not (fun h => q3 h.2.2.1))]; rfl
  rw [cbne_neg q1, cbne_neg q2, cbne_neg q3, impl_ConstraintValid_eq s.2.2.2 (by omega), bind_s]
  cases q5 : conB s.2.2.2 with
  | false => rw [cnf, hno noStep (okStep_not (fun h => by rw [q5] at h; exact absurd h.2.2.2.2.1 (by decide)))]; rfl
  | true =>
  rw [cnt]
  by_cases q6 : s.2.2.2.2 = 1
  case neg => rw [cbne_pos q6, hno noStep (okStep_not (fun h => q6 h.2.2.2.2.2))]; rfl
  rw [cbne_neg q6, impl_isCube_eq c (by omega), bind_s]
  cases hq : cubeB c with
  | false =>
    have : liftC s c = noStep := by unfold liftC; rw [hq, cff]
    rw [cnf, this]; rfl
  | true =>
    obtain ⟨hc4, hcl⟩ := cubeB_in hq
    rw [cnt, impl_negations_eq c hc hcl, bind_s]
    have hnl : (negL c).length = c.length := List.length_map ..
    refine loop_fn (f := impl_LiftStep_l1 s) (fun t : Int × List Int => ∃ i : Nat, t.1 = i ∧ i ≤ s.2.2.2.1.length ∧ t.2 = negL c ++ (s.2.2.2.1.take i).map (fun t => t.2) ∧ ∀ j, j < i → oneT (s.2.2.2.1.getD j (0, 0)) = true) (fun t => s.2.2.2.1.length - t.1.toNat) (fun _ => liftC s c) ?_ _ ⟨0, rfl, Nat.zero_le _, by simp, fun j hj => by omega⟩
    rintro ⟨t, o⟩ ⟨i, rfl, hi, rfl, hp⟩
    dsimp only
    unfold impl_LiftStep_l1
    dsimp only
    rcases Nat.lt_or_ge i s.2.2.2.1.length with h1 | h1
    · rw [cdec_pos (by omega), rq_pos ⟨by omega, by omega⟩, Int.toNat_natCast]
      by_cases q : (s.2.2.2.1.getD i (0, 0)).1 = 1
      · left
        rw [cbne_neg q, rq_pos (by simp [bound]; omega), rq_i64 (by omega) (by omega)]
        refine ⟨_, rfl, ⟨i + 1, by simp, by omega, ?_, fun j hj => ?_⟩, by (try dsimp only) <;> omega, rfl⟩
        · dsimp only
          rw [List.take_add_one, List.getElem?_eq_getElem h1, List.map_append, List.getD_eq_getElem?_getD, List.getElem?_eq_getElem h1, List.append_assoc]
          rfl
        · rcases Nat.lt_or_ge j i with h2 | h2
          · exact hp j h2
          · rw [show j = i by omega]; exact beq_iff_eq.2 q
      · right
        have hb := all_snoc_bad (p := oneT) (0, 0) h1 (beq_eq_false_iff_ne.2 q)
        rw [cbne_pos q, hno noStep (okStep_not (fun h => by rw [hb] at h; exact absurd h.2.2.2.1 (by decide)))]
        rfl
    · right
      have : i = s.2.2.2.1.length := by omega
      subst this
      have hok : okStep s = true := by unfold okStep; rw [q1, q2, q3, q5, q6, all_of_at (0, 0) hp]; rfl
      have e : liftC s c = putB (clauseB (litsS s ++ negL c)) := by unfold liftC liftB; rw [hq, ctt, hok, ctt]
      unfold impl_LiftStep_j1
      rw [cdec_neg (by omega), List.take_length, impl_ClauseOf_eq _ (by rw [List.length_append, List.length_map]; omega), bind_s, putB_model, e, show negL c ++ s.2.2.2.1.map (fun t => t.2) = negL c ++ litsS s from rfl, clauseB_perm List.perm_append_comm]
      rfl

theorem clauseB_len (l : List Int) : (clauseB l).2.2.length ≤ 12 := by
  unfold clauseB
  have := litsF_len l
  cases decide (l.length ≤ 40) && litsOk l with
  | true => rw [ctt]; dsimp only; rw [List.length_map]; exact this
  | false => rw [cff]; exact Nat.zero_le _

theorem liftB_len (s : StepT) (c : List Int) : (liftB s c).2.2.2.2.2.length ≤ 12 := by
  unfold liftB
  cases okStep s with
  | false => exact Nat.zero_le _
  | true =>
    rw [ctt]
    unfold putB
    have := clauseB_len (litsS s ++ negL c)
    cases (clauseB (litsS s ++ negL c)).1 with
    | true => exact this
    | false => exact Nat.zero_le _

theorem liftC_len (s : StepT) (c : List Int) : (liftC s c).2.2.2.2.2.length ≤ 12 := by
  unfold liftC
  cases cubeB c with
  | true => exact liftB_len s c
  | false => exact Nat.zero_le _

end Go.AE.Y
namespace Go.AE.Y
open Go Go.AE

def zS : StepT := (0, (0, (0, ([], 0))))
def smallSL (a : List StepT) : Prop := a.length ≤ 1048576 ∧ ∀ s ∈ a, smallS s
end Go.AE.Y
namespace Go.AE.Y
open Go Go.AE

theorem RdOk.ww {r : List Int × Int} {m m' : Int} (h : RdOk r m) (hm : m ≤ m') : RdOk r m' := ⟨h.byte, h.len, h.low, by have := h.high; omega⟩

def onesL (l : List Int) : List (Int × Int) := l.map (fun x => (1, x))

theorem sum_ones (v : List Bool) : ∀ (l : List Int) (a : Int), (onesL l).foldl (fun a t => bif litB v t.2 then a + t.1 else a) a = a + (l.countP (litB v) : Nat)
  | [], a => by simp [onesL]
  | x :: l, a => by
    show (onesL l).foldl _ (bif litB v x then a + 1 else a) = _
    rw [sum_ones v l, List.countP_cons]
    cases litB v x with
    | true => rw [ctt, if_pos rfl]; omega
    | false => rw [cff, if_neg (by decide)]; omega

theorem eval_ones (v : List Bool) (l : List Int) : evalB v (onesL l, 1) = l.any (litB v) := by
  unfold evalB sumB
  rw [sum_ones]
  cases hq : l.any (litB v) with
  | true =>
    obtain ⟨x, h1, h2⟩ := List.any_eq_true.1 hq
    have := List.countP_pos_iff.2 ⟨x, h1, h2⟩
    exact decide_eq_true (by (try dsimp only) <;> omega)
  | false =>
    have : l.countP (litB v) = 0 := List.countP_eq_zero.2 (fun x hx => by have := List.any_eq_false.1 hq x hx; exact this)
    rw [this]
    rfl

theorem litB_flip {v : List Bool} {x : Int} (h : x ≠ 0) : litB v (0 - x) = !(litB v x) := by
  have ev : vof (0 - x) = vof x := by unfold vof; omega
  unfold litB
  rw [ev]
  by_cases h1 : 0 < x
  · rw [decide_eq_true h1, decide_eq_false (show ¬ 0 < 0 - x by omega)]
    cases v.getD (vof x - 1).toNat false <;> rfl
  · rw [decide_eq_false h1, decide_eq_true (show 0 < 0 - x by omega)]
    cases v.getD (vof x - 1).toNat false <;> rfl

theorem any_neg {v : List Bool} : ∀ {c : List Int}, (∀ x ∈ c, x ≠ 0) → (negL c).any (litB v) = !(c.all (litB v))
  | [], _ => rfl
  | x :: c, h => by
    show (litB v (0 - x) || (negL c).any (litB v)) = !(litB v x && c.all (litB v))
    rw [any_neg (fun y hy => h y (List.mem_cons_of_mem _ hy)), litB_flip (h x List.mem_cons_self)]
    cases litB v x <;> rfl

theorem any_mem {l l' : List Int} {p : Int → Bool} (h : ∀ x, x ∈ l ↔ x ∈ l') : l.any p = l'.any p := by
  rw [Bool.eq_iff_iff, List.any_eq_true, List.any_eq_true]
  exact ⟨fun ⟨x, h1, h2⟩ => ⟨x, (h x).1 h1, h2⟩, fun ⟨x, h1, h2⟩ => ⟨x, (h x).2 h1, h2⟩⟩

theorem ones_get {l : List Int} {i : Nat} (h : i < l.length) : (onesL l).getD i (0, 0) = (1, l.getD i 0) := by
  unfold onesL
  rw [List.getD_eq_getElem?_getD, List.getElem?_map, List.getElem?_eq_getElem h, List.getD_eq_getElem?_getD, List.getElem?_eq_getElem h]
  rfl

theorem conB_ones {l : List Int} (h1 : ∀ x ∈ l, isLit x = true) (h2 : l.Pairwise (fun x y => vof x < vof y)) : conB (onesL l, 1) = true := by
  unfold conB
  have hl : (onesL l).length = l.length := List.length_map ..
  simp only [Bool.and_eq_true, List.all_eq_true]
  refine ⟨fun i hi => ?_, rfl, rfl⟩
  have hi' : i < l.length := by rw [← hl]; exact List.mem_range.1 hi
  unfold termAt
  rw [ones_get hi']
  simp only [Bool.and_eq_true, Bool.or_eq_true, decide_eq_true_eq]
  refine ⟨h1 _ (getD_mem hi'), ⟨by omega, by omega⟩, ?_⟩
  rcases Nat.lt_or_ge 0 i with q | q
  · right
    rw [ones_get (show i - 1 < l.length by omega)]
    have := List.pairwise_iff_getElem.1 h2 (i - 1) i (by omega) hi' (by omega)
    rwa [List.getD_eq_getElem?_getD, List.getD_eq_getElem?_getD, List.getElem?_eq_getElem hi', List.getElem?_eq_getElem (show i - 1 < l.length by omega)]
  · left
    exact beq_iff_eq.2 (by omega)

theorem given_ones {s : StepT} (h : okStep s = true) : s.2.2.2 = (onesL (litsS s), 1) ∧ conB s.2.2.2 = true := by
  unfold okStep at h
  simp only [Bool.and_eq_true, beq_iff_eq, List.all_eq_true] at h
  refine ⟨Prod.ext ?_ h.2.2.2, h.2.2.1⟩
  unfold onesL litsS
  rw [List.map_map]
  refine (List.map_id _).symm.trans (List.map_congr_left (fun t ht => ?_))
  have := h.2.1 t ht
  unfold oneT at this
  exact Prod.ext (beq_iff_eq.1 this) rfl

theorem impl_Eval_eq {c : List (Int × Int) × Int} {v : List Bool} (h : c.1.length ≤ 1048576) (hc : conB c = true) (hv : v.length = 12) : impl_EvalConstraint c v = some (evalB v c) := by
  unfold impl_EvalConstraint
  rw [impl_ConstraintValid_eq c (by omega), bind_s, hc, ctt, cbeq_pos (by omega), impl_Constraint_holds_eq h hc hv, bind_s]

theorem Equal_Term_me (a : List (Int × Int)) (h : a.length ≤ 4000000000) : slices_Equal_impl_Term a a = some true := by
  unfold slices_Equal_impl_Term
  rw [bne_self_eq_false, cff]
  refine loop_fn (f := slices_Equal_impl_Term_l1 a a) (fun s : Int => ∃ i : Nat, s = i ∧ i ≤ a.length) (fun s => a.length - s.toNat) (fun _ => true) ?_ _ ⟨0, rfl, Nat.zero_le _⟩
  rintro s ⟨i, rfl, hi⟩
  unfold slices_Equal_impl_Term_l1
  rcases Nat.lt_or_ge i a.length with h5 | h5
  · left
    refine ⟨(i : Int) + 1, ?_, ⟨i + 1, by simp, by omega⟩, by omega, rfl⟩
    simp (disch := omega) only [cdec_pos, rq_pos, rq_i64, bne_self_eq_false, beq_self_eq_true, Bool.and_self, Bool.not_true, cff, bind_s, ctt]
  · right
    rw [cdec_neg (by omega)]

theorem ProofSame_self (a : List StepT) (h : smallSL a) : impl_ProofSame a a = some true := by
  obtain ⟨ha, hx⟩ := h
  unfold impl_ProofSame slices_EqualFunc_impl_Step__impl_ProofSame_1
  rw [bne_self_eq_false, cff]
  have : loop (slices_EqualFunc_impl_Step__impl_ProofSame_1_l1 a a) (0 : Int) = some true := by
    refine loop_fn (f := slices_EqualFunc_impl_Step__impl_ProofSame_1_l1 a a) (fun s : Int => ∃ i : Nat, s = i ∧ i ≤ a.length) (fun s => a.length - s.toNat) (fun _ => true) ?_ _ ⟨0, rfl, Nat.zero_le _⟩
    rintro s ⟨i, rfl, hi⟩
    unfold slices_EqualFunc_impl_Step__impl_ProofSame_1_l1
    rcases Nat.lt_or_ge i a.length with h5 | h5
    · left
      have hs := hx _ (getD_mem (l := a) (i := i) (d := zS) h5)
      have e : impl_ProofSame_1 (a.getD i (0, (0, (0, ([], 0))))) (a.getD i (0, (0, (0, ([], 0))))) = some true := by
        change smallS (a.getD i (0, (0, (0, ([], 0))))) at hs
        generalize a.getD i (0, (0, (0, ([], 0)))) = b at hs ⊢
        unfold smallS at hs
        unfold impl_ProofSame_1 impl_ConstraintSame
        rw [beq_self_eq_true, ctt, beq_self_eq_true, ctt, beq_self_eq_true, ctt]
        simp (disch := omega) only [Equal_Term_me, bind_s, ctt, beq_self_eq_true]
      rw [cdec_pos (by omega), rq_pos ⟨by omega, by omega⟩, rq_pos ⟨by omega, by omega⟩, Int.toNat_natCast, e, bind_s, cnt, rq_i64 (by omega) (by omega)]
      exact ⟨_, rfl, ⟨i + 1, by simp, by omega⟩, by omega, rfl⟩
    · right
      rw [cdec_neg (by omega)]
  rw [this, bind_s]

/-! ### Draws -/

theorem spec_DrawClauseOf_ok {a : List Int} (h : ∀ x ∈ a, 0 ≤ x ∧ x ≤ 255) : ∃ l, spec_DrawClauseOf a = some l ∧ l.length ≤ 6 := by
  unfold spec_DrawClauseOf
  obtain ⟨r, e1, h1⟩ := open_ok h
  obtain ⟨x, r2, e2, a2, m2⟩ := num_adv (l := [3, 2, 4, 1, 0, 6]) (r := r) (h1.ww (by omega)) (by decide)
  have h2 : RdOk r2 10 := a2.ok h1 (by omega)
  have hx : 0 ≤ x ∧ x ≤ 6 := by simp only [List.mem_cons, List.not_mem_nil, or_false] at m2; omega
  rw [e1, bind_s, e2, bind_s]
  refine loop_ex (f := spec_DrawClauseOf_l1) (fun s : Int × (List Int × Int) × List Int => 0 ≤ s.1 ∧ (s.2.2.length : Int) + s.1 ≤ 6 ∧ RdOk s.2.1 (20 - s.1)) (fun s => s.1.toNat) (fun o => o.length ≤ 6) ?_ _ ⟨hx.1, by (try dsimp only) <;> simp <;> omega, h2.ww (by (try dsimp only) <;> omega)⟩
  rintro ⟨n, q, o⟩ ⟨g1, g2, g3⟩
  dsimp only at g1 g2 g3 ⊢
  unfold spec_DrawClauseOf_l1
  dsimp only
  by_cases hn : 0 < n
  · left
    obtain ⟨y, q1, e3, a3, m3⟩ := num_adv (l := [1, -2, 3, 2, -1, 4, 12, -5, 6]) (r := q) (g3.ww (by omega)) (by decide)
    rw [cdec_pos hn, e3, bind_s, rq_pos (by simp [bound]; omega), rq_i64 (by omega) (by omega)]
    exact ⟨_, rfl, ⟨by (try dsimp only) <;> omega, by (try dsimp only) <;> simp <;> omega, a3.ok g3 (by (try dsimp only) <;> omega)⟩, by (try dsimp only) <;> omega⟩
  · right
    unfold spec_DrawClauseOf_j1
    dsimp only
    rw [cdec_neg hn]
    by_cases h0 : 0 < (o.length : Int)
    · obtain ⟨y, q1, e3, a3, _⟩ := pick_adv 20 (r := q) (g3.ww (by omega))
      have h3 : RdOk q1 30 := a3.ok g3 (by omega)
      rw [cdec_pos h0, e3, bind_s]
      dsimp only
      cases (y == 0) with
      | true =>
        obtain ⟨z, q2, e4, a4, _⟩ := num_adv (l := [0, 13, -9223372036854775808]) (r := q1) (h3.ww (by omega)) (by decide)
        rw [ctt, e4, bind_s, rq_pos ⟨by omega, by omega⟩]
        exact ⟨_, rfl, by rw [List.length_set]; omega⟩
      | false =>
        rw [cff]
        exact ⟨_, rfl, by omega⟩
    · rw [cdec_neg h0]
      exact ⟨_, rfl, by omega⟩

theorem spec_l4Step_ok {n : Int} {r : List Int × Int} (h : RdOk r 700000000) (hn : 0 ≤ n ∧ n ≤ 1000) : ∃ r' a b c d ts, spec_l4Step n r = some (r', a, b, c, d, ts) ∧ Adv r r' 100 ∧ ts.length ≤ 12 := by
  unfold spec_l4Step
  obtain ⟨x, r1, e1, a1, m1⟩ := num_adv (l := [1, 1, 5, 4, 3, 2, 6, 7, 8]) (r := r) (h.ww (by omega)) (by decide)
  have h1 : RdOk r1 700000010 := a1.ok h (by omega)
  rw [e1, bind_s]
  dsimp only
  by_cases q6 : x = 6
  · obtain ⟨y, r2, e2, a2, m2⟩ := num_adv (l := [1, -1, 2, -3, 4]) (r := r1) (h1.ww (by omega)) (by decide)
    rw [cbeq_pos q6, e2, bind_s]
    exact ⟨_, _, _, _, _, _, rfl, a1.trans a2 (by omega), Nat.zero_le _⟩
  rw [cbeq_neg q6]
  by_cases q7 : x = 7
  · obtain ⟨r2, b, ts, e2, a2, m2, _⟩ := spec_l1Draw_ok (most := 4) (r := r1) (h1.ww (by omega)) ⟨by omega, by omega⟩
    rw [cbeq_pos q7, e2, bind_s]
    exact ⟨_, _, _, _, _, _, rfl, a1.trans a2 (by omega), m2⟩
  rw [cbeq_neg q7, rq_i64 (by omega) (by omega)]
  obtain ⟨y, r2, e2, a2, m2⟩ := pick_adv (n + 1) (r := r1) (h1.ww (by omega))
  have h2 : RdOk r2 700000020 := a2.ok h1 (by omega)
  have a12 : Adv r r2 10 := a1.trans a2 (by omega)
  rw [e2, bind_s]
  dsimp only
  by_cases q1 : x = 1
  · obtain ⟨z, r3, e3, a3, m3⟩ := pick_adv (n + 1) (r := r2) (h2.ww (by omega))
    rw [cbeq_pos q1, rq_i64 (by omega) (by omega), e3, bind_s]
    exact ⟨_, _, _, _, _, _, rfl, a12.trans a3 (by omega), Nat.zero_le _⟩
  rw [cbeq_neg q1]
  obtain ⟨z, r3, e3, a3, m3⟩ := num_adv (l := [2, 3, 1]) (r := r2) (h2.ww (by omega)) (by decide)
  by_cases q2 : x = 2
  · rw [cbeq_pos q2, e3, bind_s]
    exact ⟨_, _, _, _, _, _, rfl, a12.trans a3 (by omega), Nat.zero_le _⟩
  rw [cbeq_neg q2]
  by_cases q3 : x = 3
  · rw [cbeq_pos q3, e3, bind_s]
    exact ⟨_, _, _, _, _, _, rfl, a12.trans a3 (by omega), Nat.zero_le _⟩
  rw [cbeq_neg q3]
  by_cases q5 : x = 5
  · obtain ⟨w, r4, e4, a4, m4, m5⟩ := pick_adv 5 (r := r2) (h2.ww (by omega))
    have := m5 (by omega)
    rw [cbeq_pos q5, e4, bind_s, rq_i64 (by omega) (by omega)]
    exact ⟨_, _, _, _, _, _, rfl, a12.trans a4 (by omega), Nat.zero_le _⟩
  rw [cbeq_neg q5]
  exact ⟨_, _, _, _, _, _, rfl, a12.trans (Adv.refl _ (Int.le_refl _)) (by omega), Nat.zero_le _⟩

theorem spec_DrawLiftStep_ok {a : List Int} (h : ∀ x ∈ a, 0 ≤ x ∧ x ≤ 255) : ∃ k x y b c ts, spec_DrawLiftStep a = some (k, x, y, b, c, ts) ∧ c.length ≤ 6 ∧ ts.length ≤ 12 := by
  unfold spec_DrawLiftStep
  obtain ⟨r, e1, h1⟩ := open_ok h
  obtain ⟨l, e2, m2⟩ := spec_DrawClauseOf_ok h
  obtain ⟨x, r3, e3, a3, _⟩ := pick_adv 12 (r := r) (h1.ww (by omega))
  have h3 : RdOk r3 10 := a3.ok h1 (by omega)
  have fin : ∀ (q : List Int × Int) (s0 s1 s2 s4 : Int) (s3 : List (Int × Int)), RdOk q 1000 → s3.length ≤ 12 → ∃ k x y b c ts, spec_DrawLiftStep_j1 (q, s0, s1, s2, s4, s3) = some (k, x, y, b, c, ts) ∧ c.length ≤ 6 ∧ ts.length ≤ 12 := fun q s0 s1 s2 s4 s3 hq h3 => by
    unfold spec_DrawLiftStep_j1
    obtain ⟨k, c, e, _, _, m⟩ := spec_l12Signed_ok (r := q) (hq.ww (by omega))
    dsimp only
    rw [e, bind_s]
    exact ⟨_, _, _, _, _, _, rfl, m.1, h3⟩
  rw [e1, bind_s, e2, bind_s, spec_ClauseOf_eq l (by omega), bind_s, e3, bind_s]
  dsimp only
  cases (x == 0) with
  | true =>
    obtain ⟨r4, b, ts, e4, a4, m4, _⟩ := spec_l1Draw_ok (most := 4) (r := r3) (h3.ww (by omega)) ⟨by omega, by omega⟩
    rw [ctt, e4, bind_s]
    exact fin _ _ _ _ _ _ (a4.ok h3 (by omega)) m4
  | false =>
    rw [cff]
    cases (x == 1) with
    | true =>
      obtain ⟨r4, k, x, y, b, ts, e4, a4, m4⟩ := spec_l4Step_ok (n := 5) (r := r3) (h3.ww (by omega)) ⟨by omega, by omega⟩
      rw [ctt, e4, bind_s]
      exact fin _ _ _ _ _ _ (a4.ok h3 (by omega)) m4
    | false =>
      rw [cff]
      exact fin _ _ _ _ _ _ (h3.ww (by omega)) (clauseB_len l)

theorem law_FnLiftStep {a b : List Int} (ha : ∀ x ∈ a, 0 ≤ x ∧ x ≤ 255) (hb : ∀ x ∈ b, 0 ≤ x ∧ x ≤ 255) : laws_FnLiftStep a b = some true := by
  unfold laws_FnLiftStep
  by_cases h0 : 1048576 < (a.length : Int)
  · rw [cdec_pos h0]
  rw [cdec_neg h0]
  by_cases h0' : 1048576 < (b.length : Int)
  · rw [cdec_pos h0']
  rw [cdec_neg h0']
  obtain ⟨k, x, y, bd, c, ts, e1, hc, ht⟩ := spec_DrawLiftStep_ok ha
  obtain ⟨c', v, e2, _, hv⟩ := spec_DrawCubeHolds_ok hb
  rw [e1, bind_s, e2, bind_s]
  dsimp only
  generalize hs0 : ((k, (x, (y, (ts, bd)))) : StepT) = s
  have hs : smallS s := by subst hs0; unfold smallS; dsimp only; omega
  have hg : (ts, bd) = s.2.2.2 := by subst hs0; rfl
  have hlen := liftC_len s c
  have hps : ∀ L : StepR, L.2.2.2.2.2.length ≤ 12 → impl_ProofSame [(L.2.1, (L.2.2.1, (L.2.2.2.1, (L.2.2.2.2.2, L.2.2.2.2.1))))] [(L.2.1, (L.2.2.1, (L.2.2.2.1, (L.2.2.2.2.2, L.2.2.2.2.1))))] = some true := fun L hL => ProofSame_self _ ⟨by simp, fun t ht => by rw [List.mem_singleton] at ht; subst ht; show L.2.2.2.2.2.length ≤ _; omega⟩
  rw [impl_LiftStep_eq s c hs (by omega), bind_s, spec_LiftStep_eq s c hs (by omega), bind_s, bne_self_eq_false, cff, hps _ hlen, bind_s, Bool.not_true, cff, beq_self_eq_true, ctt, bind_s]
  cases hok : (liftC s c).1 with
  | false => rfl
  | true =>
    rw [Bool.not_true, cff]
    by_cases hv12 : v.length = 12
    case neg => rw [cbne_pos (by omega)]
    rw [cbne_neg (by omega)]
    -- the lifted clause
    have hcu : cubeB c = true := by
      cases h : cubeB c with
      | true => rfl
      | false => unfold liftC at hok; rw [h, cff] at hok; cases hok
    have hst : okStep s = true := by
      cases h : okStep s with
      | true => rfl
      | false => unfold liftC liftB at hok; rw [hcu, ctt, h, cff] at hok; cases hok
    have hcl : (decide ((litsS s ++ negL c).length ≤ 40) && litsOk (litsS s ++ negL c)) = true := by
      cases h : decide ((litsS s ++ negL c).length ≤ 40) && litsOk (litsS s ++ negL c) with
      | true => rfl
      | false =>
        unfold liftC liftB putB clauseB at hok
        rw [hcu, ctt, hst, ctt, h, cff] at hok
        cases hok
    have eL : liftC s c = (true, 7, 0, 0, 1, onesL (litsF (litsS s ++ negL c))) := by
      unfold liftC liftB putB clauseB
      rw [hcu, ctt, hst, ctt, hcl, ctt]
      rfl
    rw [Bool.and_eq_true] at hcl
    obtain ⟨g1, g2⟩ := given_ones hst
    have hlit := (litsOk_all hcl.2).1
    have hlf := litsF_len (litsS s ++ negL c)
    have hol : (onesL (litsF (litsS s ++ negL c))).length ≤ 12 := by unfold onesL; rw [List.length_map]; exact hlf
    rw [eL]
    dsimp only
    rw [beq_self_eq_true, ctt, impl_Eval_eq (c := (onesL (litsF (litsS s ++ negL c)), 1)) (by (try dsimp only) <;> omega) (conB_ones (fun x hx => hlit x ((litsF_mem hcl.2 x).1 hx)) (litsF_asc hcl.2)) hv12, bind_s, hg, impl_Eval_eq hs g2 hv12, bind_s, g1, eval_ones, eval_ones, any_mem (litsF_mem hcl.2), List.any_append, any_neg (fun x hx => (cubeB_lits hcu x hx).1)]
    cases hl : (litsS s).any (litB v) with
    | true => rw [ctt]; rfl
    | false =>
      rw [cff, impl_CubeHolds_eq c v (by omega), bind_s, Bool.false_or]
      unfold cubeHoldsB
      rw [hcu, decide_eq_true hv12, Bool.true_and, Bool.true_and, beq_self_eq_true]

end Go.AE.Y
