/-
  Plain laws for models: requirements, loops.
-/
import Derived.Test.YtpjbfmifmikloaaAEModel
namespace Go.AE

theorem rq_pos {α : Type} {p : Prop} [Decidable p] {m : Option α} (h : p) : rq p m = m := if_pos h

theorem nt_pos {α : Type} {p : Prop} {m m' : Option α} {r : α} (h1 : p → m = some r) (h2 : m' = some r) : nt p m m' = some r := by
  unfold nt
  split
  · rename_i hp
    rw [h1 hp, h2, if_pos rfl]
  · exact h2

/-- A loop with an invariant and a measure: what it gives is what T tells of each state on the way. -/
theorem loop_fn {S R : Type} {f : S → Option (S ⊕ R)} (Inv : S → Prop) (μ : S → Nat) (T : S → R)
    (step : ∀ s, Inv s → (∃ s', f s = some (.inl s') ∧ Inv s' ∧ μ s' < μ s ∧ T s' = T s) ∨ f s = some (.inr (T s))) : ∀ s, Inv s → loop f s = some (T s) := by
  have key : ∀ n s, μ s ≤ n → Inv s → loop f s = some (T s) := by
    intro n
    induction n with
    | zero =>
      intro s hn hs
      rw [loop_eq]
      rcases step s hs with ⟨s', h1, _, h3, _⟩ | h1
      · omega
      · rw [h1]; rfl
    | succ n ih =>
      intro s hn hs
      rw [loop_eq]
      rcases step s hs with ⟨s', h1, h2, h3, h4⟩ | h1
      · rw [h1, ← h4]; exact ih s' (by omega) h2
      · rw [h1]; rfl
  exact fun s => key _ s (Nat.le_refl _)

/-- A loop with an invariant and a measure, and what holds of its answer. -/
theorem loop_ex {S R : Type} {f : S → Option (S ⊕ R)} (Inv : S → Prop) (μ : S → Nat) (Q : R → Prop)
    (step : ∀ s, Inv s → (∃ s', f s = some (.inl s') ∧ Inv s' ∧ μ s' < μ s) ∨ (∃ r, f s = some (.inr r) ∧ Q r)) : ∀ s, Inv s → ∃ r, loop f s = some r ∧ Q r := by
  have key : ∀ n s, μ s ≤ n → Inv s → ∃ r, loop f s = some r ∧ Q r := by
    intro n
    induction n with
    | zero =>
      intro s hn hs
      rw [loop_eq]
      rcases step s hs with ⟨s', h1, _, h3⟩ | ⟨r, h1, h2⟩
      · omega
      · rw [h1]; exact ⟨r, rfl, h2⟩
    | succ n ih =>
      intro s hn hs
      rw [loop_eq]
      rcases step s hs with ⟨s', h1, h2, h3⟩ | ⟨r, h1, h2⟩
      · rw [h1]; exact ih s' (by omega) h2
      · rw [h1]; exact ⟨r, rfl, h2⟩
  exact fun s => key _ s (Nat.le_refl _)

/-- Counting up: all of the first n, or the first that fails. -/
theorem loop_all {R : Type} {f : Int → Option (Int ⊕ R)} (n : Nat) (p : Nat → Bool) (bad : R) (fin : R)
    (h : ∀ i : Nat, i < n → (∀ j, j < i → p j = true) → f i = some (bif p i then .inl ((i : Int) + 1) else .inr bad)) (hn : f n = some (.inr fin)) : loop f 0 = some (bif (List.range n).all p then fin else bad) := by
  have key : ∀ k i : Nat, i + k = n → (∀ j, j < i → p j = true) → loop f (i : Int) = some (bif (List.range' i k).all p then fin else bad) := by
    intro k
    induction k with
    | zero =>
      intro i hi _
      have : i = n := by omega
      subst this
      rw [loop_eq, hn]
      simp
    | succ k ih =>
      intro i hi hpre
      rw [loop_eq, h i (by omega) hpre]
      cases hp : p i with
      | true =>
        have := ih (i + 1) (by omega) (fun j hj => by
          rcases Nat.lt_or_ge j i with h1 | h1
          · exact hpre j h1
          · have : j = i := by omega
            subst this; exact hp)
        simp only [Option.bind_some, cond_true]
        rw [show ((i : Int) + 1) = ((i + 1 : Nat) : Int) by omega, this]
        simp [List.range'_succ, hp]
      | false => simp [List.range'_succ, hp]
  have := key n 0 (by omega) (fun j hj => by omega)
  simpa [List.range_eq_range'] using this

/-- Counting up, with a state that grows. -/
theorem loop_fold {A R : Type} {f : Int × A → Option ((Int × A) ⊕ R)} (n : Nat) (Inv : Nat → A → Prop) (g : Nat → A → A) (fin : A → R) (a0 : A) (h0 : Inv 0 a0)
    (h : ∀ (i : Nat) a, i < n → Inv i a → f (i, a) = some (.inl ((i : Int) + 1, g i a)) ∧ Inv (i + 1) (g i a)) (hn : ∀ a, Inv n a → f (n, a) = some (.inr (fin a))) :
    loop f (0, a0) = some (fin ((List.range n).foldl (fun a i => g i a) a0)) ∧ Inv n ((List.range n).foldl (fun a i => g i a) a0) := by
  have key : ∀ (k i : Nat) (a : A), i + k = n → Inv i a → loop f ((i : Int), a) = some (fin ((List.range' i k).foldl (fun a i => g i a) a)) ∧ Inv n ((List.range' i k).foldl (fun a i => g i a) a) := by
    intro k
    induction k with
    | zero =>
      intro i a hi ha
      have : i = n := by omega
      subst this
      rw [loop_eq, hn a ha]
      exact ⟨rfl, ha⟩
    | succ k ih =>
      intro i a hi ha
      obtain ⟨h1, h2⟩ := h i a (by omega) ha
      rw [loop_eq, h1]
      have := ih (i + 1) (g i a) (by omega) h2
      simp only [Option.bind_some]
      rw [show ((i : Int) + 1) = ((i + 1 : Nat) : Int) by omega]
      simpa [List.range'_succ] using this
  have := key n 0 a0 (by omega) h0
  simpa [List.range_eq_range'] using this

/-- The first that p holds of. -/
theorem loop_find {α : Type} {f : Int → Option (Int ⊕ Int)} (l : List α) (d : α) (p : α → Bool) (h : ∀ i : Nat, i < l.length → f i = some (bif p (l.getD i d) then .inr (i : Int) else .inl ((i : Int) + 1))) (hn : f l.length = some (.inr (-1))) :
    ∃ r, loop f 0 = some r ∧ decide (0 ≤ r) = l.any p := by
  have key : ∀ k i : Nat, i + k = l.length → ∃ r, loop f (i : Int) = some r ∧ decide (0 ≤ r) = (l.drop i).any p := by
    intro k
    induction k with
    | zero =>
      intro i hi
      have : i = l.length := by omega
      subst this
      rw [loop_eq, hn]
      exact ⟨-1, rfl, by simp⟩
    | succ k ih =>
      intro i hi
      have hi' : i < l.length := by omega
      rw [loop_eq, h i hi', List.drop_eq_getElem_cons hi', List.any_cons]
      have e : l.getD i d = l[i] := by rw [List.getD_eq_getElem?_getD, List.getElem?_eq_getElem hi']; rfl
      rw [e]
      cases hp : p l[i] with
      | true => exact ⟨i, rfl, by simp⟩
      | false =>
        obtain ⟨r, h1, h2⟩ := ih (i + 1) (by omega)
        refine ⟨r, ?_, by simpa using h2⟩
        simp only [cond_false, Option.bind_some]
        rw [show ((i : Int) + 1) = ((i + 1 : Nat) : Int) by omega]
        exact h1
  exact key l.length 0 (by omega)

theorem i64_of {n : Int} (h1 : -9223372036854775808 ≤ n) (h2 : n ≤ 9223372036854775807) : i64 n := ⟨h1, h2⟩

theorem getD_map {α β : Type} (l : List α) (f : α → β) (i : Nat) (d : α) (d' : β) (h : i < l.length) : (l.map f).getD i d' = f (l.getD i d) := by
  simp [List.getD_eq_getElem?_getD, h]

/-- All elements, by their places. -/
theorem all_range {α : Type} (l : List α) (p : α → Bool) (d : α) : (List.range l.length).all (fun i => p (l.getD i d)) = l.all p := by
  rw [Bool.eq_iff_iff, List.all_eq_true, List.all_eq_true]
  constructor
  · intro h x hx
    obtain ⟨i, hi, rfl⟩ := List.mem_iff_getElem.1 hx
    have := h i (List.mem_range.2 hi)
    simpa [List.getD_eq_getElem?_getD, hi] using this
  · intro h i hi
    have hi := List.mem_range.1 hi
    have := h _ (List.getElem_mem hi)
    simpa [List.getD_eq_getElem?_getD, hi] using this

theorem rq_i64 {α : Type} {n : Int} {m : Option α} (h1 : -9223372036854775808 ≤ n) (h2 : n ≤ 9223372036854775807) : rq (i64 n) m = m := if_pos ⟨h1, h2⟩
theorem cdec_pos {α : Type} {p : Prop} [Decidable p] {m m' : α} (h : p) : cond (decide p) m m' = m := by rw [decide_eq_true h]; rfl
theorem cdec_neg {α : Type} {p : Prop} [Decidable p] {m m' : α} (h : ¬ p) : cond (decide p) m m' = m' := by rw [decide_eq_false h]; rfl
theorem cbne_pos {α : Type} {a b : Int} {m m' : α} (h : a ≠ b) : cond (a != b) m m' = m := by rw [bne_iff_ne.2 h]; rfl
theorem cbne_neg {α : Type} {a b : Int} {m m' : α} (h : a = b) : cond (a != b) m m' = m' := by subst h; simp
theorem cbeq_pos {α : Type} {a b : Int} {m m' : α} (h : a = b) : cond (a == b) m m' = m := by subst h; simp
theorem cbeq_neg {α : Type} {a b : Int} {m m' : α} (h : a ≠ b) : cond (a == b) m m' = m' := by rw [beq_eq_false_iff_ne.2 h]; rfl

/-- A loop that lays a row's elements, changed by g, into a new row. -/
theorem loop_copy {α β : Type} {f : Int × List β → Option ((Int × List β) ⊕ List β)} (l : List α) (d : α) (e : β) (g : α → β)
    (h : ∀ (i : Nat) (out : List β), i < l.length → out.length = l.length → f (i, out) = some (.inl ((i : Int) + 1, out.set i (g (l.getD i d))))) (hn : ∀ out, f (l.length, out) = some (.inr out)) :
    loop f (0, List.replicate l.length e) = some (l.map g) := by
  refine loop_fn (fun s : Int × List β => ∃ i : Nat, s.1 = i ∧ i ≤ l.length ∧ s.2 = (l.map g).take i ++ List.replicate (l.length - i) e) (fun s => l.length - s.1.toNat) (fun _ => l.map g) ?_ _ ⟨0, rfl, Nat.zero_le _, by simp⟩
  rintro ⟨s, out⟩ ⟨i, rfl, hi, ho⟩
  dsimp only at ho ⊢
  have hlen : out.length = l.length := by rw [ho]; simp; omega
  rcases Nat.lt_or_ge i l.length with h1 | h1
  · left
    refine ⟨_, h i out h1 hlen, ⟨i + 1, by simp, by omega, ?_⟩, by dsimp only; omega, rfl⟩
    dsimp only
    apply List.ext_getElem?
    intro j
    rw [ho]
    have e1 : l.length - i = (l.length - (i + 1)) + 1 := by omega
    rw [List.getElem?_set]
    have hl1 : ((l.map g).take i).length = i := by simp; omega
    have hl2 : ((l.map g).take (i + 1)).length = i + 1 := by simp; omega
    by_cases hj : i = j
    · subst hj
      rw [if_pos rfl, if_pos (by simp; omega), List.getElem?_append_left (by omega)]
      simp [List.getD_eq_getElem?_getD, h1]
    · rw [if_neg hj]
      rcases Nat.lt_or_ge j i with h2 | h2
      · rw [List.getElem?_append_left (by omega), List.getElem?_append_left (by omega)]
        simp [h2, show j < i + 1 by omega]
      · rw [List.getElem?_append_right (by omega), List.getElem?_append_right (by omega), hl1, hl2]
        rw [List.getElem?_replicate, List.getElem?_replicate]
        congr 1
        apply propext
        omega
  · right
    have : i = l.length := by omega
    subst this
    rw [hn]
    congr 2
    rw [ho, List.take_of_length_le (by simp)]
    simp

/-- Counting up, the count behind the state that grows. -/
theorem loop_foldr {A R : Type} {f : A × Int → Option ((A × Int) ⊕ R)} (n : Nat) (Inv : Nat → A → Prop) (g : Nat → A → A) (fin : A → R) (a0 : A) (h0 : Inv 0 a0)
    (h : ∀ (i : Nat) a, i < n → Inv i a → f (a, i) = some (.inl (g i a, (i : Int) + 1)) ∧ Inv (i + 1) (g i a)) (hn : ∀ a, Inv n a → f (a, n) = some (.inr (fin a))) :
    loop f (a0, 0) = some (fin ((List.range n).foldl (fun a i => g i a) a0)) ∧ Inv n ((List.range n).foldl (fun a i => g i a) a0) := by
  have key : ∀ (k i : Nat) (a : A), i + k = n → Inv i a → loop f (a, (i : Int)) = some (fin ((List.range' i k).foldl (fun a i => g i a) a)) ∧ Inv n ((List.range' i k).foldl (fun a i => g i a) a) := by
    intro k
    induction k with
    | zero =>
      intro i a hi ha
      have : i = n := by omega
      subst this
      rw [loop_eq, hn a ha]
      exact ⟨rfl, ha⟩
    | succ k ih =>
      intro i a hi ha
      obtain ⟨h1, h2⟩ := h i a (by omega) ha
      rw [loop_eq, h1]
      have := ih (i + 1) (g i a) (by omega) h2
      simp only [Option.bind_some]
      rw [show ((i : Int) + 1) = ((i + 1 : Nat) : Int) by omega]
      simpa [List.range'_succ] using this
  have := key n 0 a0 (by omega) h0
  simpa [List.range_eq_range'] using this

/-- A fold over places is a fold over elements. -/
theorem foldl_range {α A : Type} (l : List α) (d : α) (g : A → α → A) (a : A) : (List.range l.length).foldl (fun a i => g a (l.getD i d)) a = l.foldl g a := by
  have : l = (List.range l.length).map (fun i => l.getD i d) := by
    apply List.ext_getElem
    · simp
    · intro i h1 h2
      simp [List.getD_eq_getElem?_getD, h1]
  conv => rhs; rw [this]
  rw [List.foldl_map]

/-- Not by computation: so that the kernel need not compare what stands behind. -/
theorem cnt {α : Type} {a b : α} : cond (!true) a b = b := Eq.trans (congrArg (fun x => cond x a b) (Bool.not_true)) (Eq.trans rfl (id rfl))
theorem cnf {α : Type} {a b : α} : cond (!false) a b = a := Eq.trans (congrArg (fun x => cond x a b) (Bool.not_false)) (Eq.trans rfl (id rfl))
theorem ctt {α : Type} {a b : α} : cond true a b = a := Eq.trans rfl (id rfl)
theorem cff {α : Type} {a b : α} : cond false a b = b := Eq.trans rfl (id rfl)
theorem bind_s {α β : Type} {a : α} {f : α → Option β} : (some a).bind f = f a := Eq.trans (Option.bind_some a f) (id rfl)
theorem tand {b : Bool} : (true && b) = b := Eq.trans (Bool.true_and b) (id rfl)

end Go.AE
