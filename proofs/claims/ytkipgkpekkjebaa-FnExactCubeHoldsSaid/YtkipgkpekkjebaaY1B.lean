/-
  Contracts kept by laws.toBoolS, laws.eqIntS, laws.eqBoolS, spec.l1Lit, spec.l1Abs, impl.isCube. Each holds under what its contract requires, and nothing else.
-/
import Derived.Test.YtkipgkpekkjebaaY1A
namespace Go.AE.Y1
open Go Go.AE Go.Proofs

def cToBoolS : Con := fun args st => match args, st with
  | [.c (.imm .bool l)], [] => .req (l.length ≤ bound) (.c (.own 7)) [(7, .sl 4 .bool l .shallow)]
  | _, _ => .fail

theorem k17 : Entry Try.prog 17 cToBoolS := by
  refine entry_of (C := { y := tys, n := 22, h := 0, tab := [] }) mixed tys_ok ?_ (fn := Try.f17) (c := bd Try.f17) (by kernel_rfl) (by kernel_rfl) (by kernel_rfl) (by kernel_rfl) ?_
  · exact fun p h => by cases h
  intro args st k he
  unfold cToBoolS at he
  split at he
  rotate_left
  · exact he.elim
  rename_i l
  refine ⟨rfl, rfl, ?_⟩
  have hb := he.1
  refine And.intro ⟨by omega, by simp only [bound] at hb ⊢; omega, rfl⟩ ?_
  refine loop_rule mixed tys_ok tabOk_nil (I := fun i : Nat => (envOf [(0, .c (.imm .bool l)), (3, .c (.own 7)), (4, .c (.int .i64 i))], [(7, .sl 4 .bool (l.take i ++ List.replicate (l.length - i) false) .shallow)])) (fun i => l.length - i) 0 ?_ ?_
  · exact leads_to ⟨rfl, rfl, rfl, trivial⟩ rfl
  · intro i
    refine And.intro (fun h => ?_) (fun h => ?_)
    · have h := of_decide_eq_true h
      have h' : i < l.length := by omega
      refine And.intro ⟨by omega, h⟩ (And.intro ⟨by omega, ?_⟩ (And.intro ⟨by omega, by simp only [bound] at hb; omega⟩ ⟨i + 1, by omega, ?_⟩))
      · simp; omega
      · exact leads_to ⟨rfl, rfl, rfl, trivial⟩ (congrArg (fun x => [(7, Ob.sl 4 .bool x .shallow)]) (copy_step l _ _ h'))
    · have h := of_decide_eq_false h
      exact ⟨rfl, _, _, Leads.refl _ _, cast_k (fun x => k (.c (.own 7)) [(7, .sl 4 .bool x .shallow)]) he.2 (take_all l _ (by omega))⟩

theorem eq_getD {α : Type} {l l' : List α} (d : α) (h : l.length = l'.length) (h' : ∀ j, j < l.length → l.getD j d = l'.getD j d) : l = l' := by
  refine List.ext_getElem h fun j h1 h2 => ?_
  have := h' j h1
  rw [getD_at h1, getD_at h2] at this
  exact this

def cEqIntS : Con := fun args st => match args, st with
  | [.c (.imm (.int .i64) l), .c (.imm (.int .i64) l')], [] => .req (l.length ≤ bound) (.c (.bool (decide (l = l')))) []
  | _, _ => .fail

theorem k19 : Entry Try.prog 19 cEqIntS := by
  refine entry_of (C := { y := tys, n := 26, h := 0, tab := [] }) mixed tys_ok ?_ (fn := Try.f19) (c := bd Try.f19) (by kernel_rfl) (by kernel_rfl) (by kernel_rfl) (by kernel_rfl) ?_
  · exact fun p h => by cases h
  intro args st k he
  unfold cEqIntS at he
  split at he
  rotate_left
  · exact he.elim
  rename_i l l'
  refine ⟨rfl, rfl, ?_⟩
  have hb := he.1
  refine And.intro (fun h => ?_) (fun h => ?_)
  · refine ⟨rfl, _, _, Leads.refl _ _, cast_k (fun x => k (.c (.bool x)) []) he.2 (Eq.symm ?_)⟩
    refine decide_eq_false (fun e => ?_)
    subst e
    simp at h
  · have h : l.length = l'.length := by
      simp only [bne_eq_false_iff_eq] at h
      omega
    refine loop_rule mixed tys_ok tabOk_nil (I := fun i : { i : Nat // ∀ j, j < i → l.getD j 0 = l'.getD j 0 } => (envOf [(0, .c (.imm int l)), (1, .c (.imm int l')), (5, .c (.int .i64 i.1))], [])) (fun i => l.length - i.1) ⟨0, fun j hj => absurd hj (Nat.not_lt_zero j)⟩ ?_ ?_
    · exact leads_to ⟨rfl, rfl, rfl, trivial⟩ rfl
    · rintro ⟨i, hi⟩
      refine And.intro (fun h1 => ?_) (fun h1 => ?_)
      · have h1 := of_decide_eq_true h1
        have h' : i < l.length := by dsimp only at h1; omega
        refine And.intro (by kernel_rfl) (And.intro ⟨by omega, h1⟩ (And.intro ⟨by omega, by dsimp only; omega⟩ (And.intro (fun h2 => ?_) (fun h2 => ?_))))
        · refine ⟨rfl, _, _, Leads.refl _ _, cast_k (fun x => k (.c (.bool x)) []) he.2 (Eq.symm ?_)⟩
          refine decide_eq_false (fun e => ?_)
          subst e
          simp at h2
        · refine And.intro ⟨by dsimp only; omega, by simp only [bound] at hb; dsimp only; omega⟩ ⟨⟨i + 1, fun j hj => ?_⟩, by dsimp only; omega, ?_⟩
          · rcases Nat.lt_or_ge j i with hj' | hj'
            · exact hi j hj'
            · have : j = i := by omega
              subst this
              exact bne_eq_false_iff_eq.1 h2
          · exact leads_to ⟨rfl, rfl, rfl, trivial⟩ rfl
      · have h1 := of_decide_eq_false h1
        refine ⟨rfl, _, _, Leads.refl _ _, cast_k (fun x => k (.c (.bool x)) []) he.2 (Eq.symm ?_)⟩
        refine decide_eq_true (eq_getD 0 h fun j hj => hi j ?_)
        dsimp only at h1
        omega

def cEqBoolS : Con := fun args st => match args, st with
  | [.c (.imm .bool l), .c (.imm .bool l')], [] => .req (l.length ≤ bound) (.c (.bool (decide (l = l')))) []
  | _, _ => .fail

theorem k20 : Entry Try.prog 20 cEqBoolS := by
  refine entry_of (C := { y := tys, n := 26, h := 0, tab := [] }) mixed tys_ok ?_ (fn := Try.f20) (c := bd Try.f20) (by kernel_rfl) (by kernel_rfl) (by kernel_rfl) (by kernel_rfl) ?_
  · exact fun p h => by cases h
  intro args st k he
  unfold cEqBoolS at he
  split at he
  rotate_left
  · exact he.elim
  rename_i l l'
  refine ⟨rfl, rfl, ?_⟩
  have hb := he.1
  refine And.intro (fun h => ?_) (fun h => ?_)
  · refine ⟨rfl, _, _, Leads.refl _ _, cast_k (fun x => k (.c (.bool x)) []) he.2 (Eq.symm ?_)⟩
    refine decide_eq_false (fun e => ?_)
    subst e
    simp at h
  · have h : l.length = l'.length := by
      simp only [bne_eq_false_iff_eq] at h
      omega
    refine loop_rule mixed tys_ok tabOk_nil (I := fun i : { i : Nat // ∀ j, j < i → l.getD j false = l'.getD j false } => (envOf [(0, .c (.imm .bool l)), (1, .c (.imm .bool l')), (5, .c (.int .i64 i.1))], [])) (fun i => l.length - i.1) ⟨0, fun j hj => absurd hj (Nat.not_lt_zero j)⟩ ?_ ?_
    · exact leads_to ⟨rfl, rfl, rfl, trivial⟩ rfl
    · rintro ⟨i, hi⟩
      refine And.intro (fun h1 => ?_) (fun h1 => ?_)
      · have h1 := of_decide_eq_true h1
        have h' : i < l.length := by dsimp only at h1; omega
        refine And.intro (by kernel_rfl) (And.intro ⟨by omega, h1⟩ (And.intro ⟨by omega, by dsimp only; omega⟩ (And.intro (fun h2 => ?_) (fun h2 => ?_))))
        · refine ⟨rfl, _, _, Leads.refl _ _, cast_k (fun x => k (.c (.bool x)) []) he.2 (Eq.symm ?_)⟩
          refine decide_eq_false (fun e => ?_)
          subst e
          simp at h2
        · refine And.intro ⟨by dsimp only; omega, by simp only [bound] at hb; dsimp only; omega⟩ ⟨⟨i + 1, fun j hj => ?_⟩, by dsimp only; omega, ?_⟩
          · rcases Nat.lt_or_ge j i with hj' | hj'
            · exact hi j hj'
            · have : j = i := by omega
              subst this
              exact bne_eq_false_iff_eq.1 h2
          · exact leads_to ⟨rfl, rfl, rfl, trivial⟩ rfl
      · have h1 := of_decide_eq_false h1
        refine ⟨rfl, _, _, Leads.refl _ _, cast_k (fun x => k (.c (.bool x)) []) he.2 (Eq.symm ?_)⟩
        refine decide_eq_true (eq_getD false h fun j hj => hi j ?_)
        dsimp only at h1
        omega

def cL1Lit : Con := fun args st => match args, st with
  | [.c (.int .i64 n)], [] => .ret (.c (.bool (isLit n))) []
  | _, _ => .fail

theorem k96 : Entry Try.prog 96 cL1Lit := by
  refine entry_of (C := { y := tys, n := 13, h := 0, tab := [] }) mixed tys_ok ?_ (fn := Try.f96) (c := bd Try.f96) (by kernel_rfl) (by kernel_rfl) (by kernel_rfl) (by kernel_rfl) ?_
  · exact fun p h => by cases h
  intro args st k he
  unfold cL1Lit at he
  split at he
  rotate_left
  · exact he.elim
  rename_i n
  refine ⟨rfl, rfl, ?_⟩
  refine And.intro (fun h => ?_) (fun h => ?_)
  · refine And.intro (fun h2 => ?_) (fun h2 => ?_)
    · refine ⟨rfl, _, _, Leads.refl _ _, cast_k (fun x => k (.c (.bool x)) []) he ?_⟩
      have h2 : decide (-12 ≤ n) = true := h2
      simp only [isLit, h, h2, Bool.true_and]
    · refine ⟨rfl, _, _, Leads.refl _ _, cast_k (fun x => k (.c (.bool x)) []) he ?_⟩
      have h2 : decide (-12 ≤ n) = false := h2
      simp only [isLit, h, h2, Bool.true_and, Bool.false_and]
  · refine ⟨rfl, _, _, Leads.refl _ _, cast_k (fun x => k (.c (.bool x)) []) he ?_⟩
    simp only [isLit, h, Bool.not_true, Bool.false_and]

def cL1Abs : Con := fun args st => match args, st with
  | [.c (.int .i64 n)], [] => .req (inR .i64 (0 - n)) (.c (.int .i64 (max n (0 - n)))) []
  | _, _ => .fail

theorem k69 : Entry Try.prog 69 cL1Abs := by
  refine entry_of (C := { y := tys, n := 8, h := 0, tab := [] }) mixed tys_ok ?_ (fn := Try.f69) (c := bd Try.f69) (by kernel_rfl) (by kernel_rfl) (by kernel_rfl) (by kernel_rfl) ?_
  · exact fun p h => by cases h
  intro args st k he
  unfold cL1Abs at he
  split at he
  rotate_left
  · exact he.elim
  rename_i n
  refine ⟨rfl, rfl, ?_⟩
  refine And.intro (fun h => ?_) (fun h => ?_)
  · have h := of_decide_eq_true h
    exact And.intro he.1 ⟨rfl, _, _, Leads.refl _ _, cast_k (fun x => k (.c (.int .i64 x)) []) he.2 (by omega)⟩
  · have h := of_decide_eq_false h
    exact ⟨rfl, _, _, Leads.refl _ _, cast_k (fun x => k (.c (.int .i64 x)) []) he.2 (by omega)⟩

/-- Literal number i of a cube is one, and its variable comes behind the one before. -/
def cubeAt (l : List Int) (i : Nat) : Bool := isLit (l.getD i 0) && (decide (i = 0) || decide ((l.getD (i - 1) 0).natAbs < (l.getD i 0).natAbs))

def isCubeL (l : List Int) : Bool := allN l.length (cubeAt l) && decide (l.length ≤ 4)

theorem not_false_eq {b : Bool} (h : (!b) = false) : b = true := by cases b <;> simp_all
theorem not_true_eq {b : Bool} (h : (!b) = !false) : b = false := by cases b <;> simp_all
theorem isLit_range {n : Int} (h : isLit n = true) : -12 ≤ n ∧ n ≤ 12 := by
  simp only [isLit, Bool.and_eq_true, bne_iff_ne, decide_eq_true_eq] at h
  omega
theorem cubeAt_lit {l : List Int} {i : Nat} (h : cubeAt l i = true) : isLit (l.getD i 0) = true := by
  simp only [cubeAt, Bool.and_eq_true] at h
  exact h.1

def cIsCube : Con := fun args st => match args, st with
  | [.c (.imm (.int .i64) l)], [] => .req (l.length ≤ bound) (.c (.bool (isCubeL l))) []
  | _, _ => .fail

theorem k56 : Entry Try.prog 56 cIsCube := by
  refine entry_of (C := { y := tys, n := 34, h := 0, tab := [(97, cIsLiteral), (98, cVariableOf)] }) mixed tys_ok ?_ (fn := Try.f56) (c := bd Try.f56) (by kernel_rfl) (by kernel_rfl) (by kernel_rfl) (by kernel_rfl) ?_
  · simp only [List.forall_mem_cons]
    exact ⟨k97, k98, fun p h => by cases h⟩
  intro args st k he
  unfold cIsCube at he
  split at he
  rotate_left
  · exact he.elim
  rename_i l
  refine ⟨rfl, rfl, ?_⟩
  have hb : l.length ≤ 4294967296 := he.1
  change List Int at l
  have no : ∀ i, i < l.length → cubeAt l i = false → k (.c (.bool false)) [] := fun i hi h => by
    have := he.2
    rw [show isCubeL l = false by simp only [isCubeL, allN_false i hi h, Bool.false_and]] at this
    exact this
  refine loop_rule mixed tys_ok (tabOk_of (by simp only [List.forall_mem_cons]; exact ⟨k97, k98, fun p h => by cases h⟩)) (I := fun i : { i : Nat // ∀ j, j < i → cubeAt l j = true } => (envOf [(0, .c (.imm int l)), (5, .c (.imm int l)), (6, .c (.int .i64 l.length)), (7, .c (.int .i64 i.1))], [])) (fun i => l.length - i.1) ⟨0, fun j hj => absurd hj (Nat.not_lt_zero j)⟩ ?_ ?_
  · exact leads_to ⟨rfl, rfl, rfl, rfl, trivial⟩ rfl
  · rintro ⟨i, hi⟩
    refine And.intro (fun h1 => ?_) (fun h1 => ?_)
    · have h1 := of_decide_eq_true h1
      have h' : i < l.length := by dsimp only at h1; omega
      refine And.intro ⟨by omega, h1⟩ ?_
      refine And.intro (fun h2 => ?_) (fun h2 => ?_)
      · have h2 : isLit (l.getD i 0) = true := not_false_eq h2
        have hr : -12 ≤ l.getD i 0 ∧ l.getD i 0 ≤ 12 := isLit_range h2
        refine And.intro (fun h3 => ?_) (fun h3 => ?_)
        · have h3 := of_decide_eq_true h3
          have h3' : 0 < i := by dsimp only at h3; omega
          have hp := hi (i - 1) (by omega)
          have hq := isLit_range (cubeAt_lit hp)
          have e1 : ((i : Int) - 1).toNat = i - 1 := by omega
          refine And.intro ⟨by omega, by dsimp only at h1 ⊢; omega⟩ (And.intro ⟨by omega, by dsimp only at h1 ⊢; omega⟩ (And.intro ?_ (And.intro ?_ (And.intro (fun h4 => ?_) (fun h4 => ?_)))))
          · show inR .i64 (0 - l.getD ((i : Int) - 1).toNat 0)
            rw [e1]
            exact ⟨by omega, by omega⟩
          · show inR .i64 (0 - l.getD i 0)
            exact ⟨by omega, by omega⟩
          · have h4 : decide (max (l.getD i 0) (0 - l.getD i 0) ≤ max (l.getD ((i : Int) - 1).toNat 0) (0 - l.getD ((i : Int) - 1).toNat 0)) = true := h4
            rw [e1] at h4
            have h4 := of_decide_eq_true h4
            refine ⟨rfl, _, _, Leads.refl _ _, no i h' ?_⟩
            simp only [cubeAt, h2, Bool.true_and, Bool.or_eq_false_iff, decide_eq_false_iff_not]
            omega
          · have h4 : decide (max (l.getD i 0) (0 - l.getD i 0) ≤ max (l.getD ((i : Int) - 1).toNat 0) (0 - l.getD ((i : Int) - 1).toNat 0)) = false := h4
            rw [e1] at h4
            have h4 := of_decide_eq_false h4
            refine And.intro ⟨by dsimp only; omega, by dsimp only; omega⟩ ⟨⟨i + 1, fun j hj => ?_⟩, by dsimp only; omega, ?_⟩
            · rcases Nat.lt_or_ge j i with hj' | hj'
              · exact hi j hj'
              · have : j = i := by omega
                subst this
                simp only [cubeAt, h2, Bool.true_and, Bool.or_eq_true, decide_eq_true_eq]
                omega
            · exact leads_to ⟨rfl, rfl, rfl, rfl, trivial⟩ rfl
        · have h3 : decide ((0 : Int) < i) = false := h3
          have h3 := of_decide_eq_false h3
          refine And.intro ⟨by dsimp only; omega, by dsimp only; omega⟩ ⟨⟨i + 1, fun j hj => ?_⟩, by dsimp only; omega, ?_⟩
          · rcases Nat.lt_or_ge j i with hj' | hj'
            · exact hi j hj'
            · have : j = i := by omega
              subst this
              simp only [cubeAt, h2, Bool.true_and, Bool.or_eq_true, decide_eq_true_eq]
              omega
          · exact leads_to ⟨rfl, rfl, rfl, rfl, trivial⟩ rfl
      · have h2 : isLit (l.getD i 0) = false := not_true_eq h2
        refine ⟨rfl, _, _, Leads.refl _ _, no i h' ?_⟩
        simp only [cubeAt, h2, Bool.false_and]
    · have h1 := of_decide_eq_false h1
      refine ⟨rfl, _, _, Leads.refl _ _, cast_k (fun x => k (.c (.bool x)) []) he.2 ?_⟩
      simp only [isCubeL, allN_true (fun j (hj : j < l.length) => hi j (by dsimp only at h1; omega)), Bool.true_and]
      exact decide_eq_decide.2 (by omega)


end Go.AE.Y1
