/-
  Contracts kept by spec.l1True and spec.l12Vars. Each holds under what its contract requires, and nothing else.
-/
import Derived.Test.YtkipgkpekkjebaaY1C
namespace Go.AE.Y1
open Go Go.AE Go.Proofs

def cL1True : Con := fun args st => match args, st with
  | [.c (.imm .bool v), .c (.int .i64 n)], [] => .req (isLit n = true ∧ v.length = 12) (.c (.bool (holdsL v n))) []
  | _, _ => .fail

theorem k55 : Entry Try.prog 55 cL1True := by
  refine entry_of (C := { y := tys, n := 19, h := 0, tab := [] }) mixed tys_ok ?_ (fn := Try.f55) (c := bd Try.f55) (by kernel_rfl) (by kernel_rfl) (by kernel_rfl) (by kernel_rfl) ?_
  · exact fun p h => by cases h
  intro args st k he
  unfold cL1True at he
  split at he
  rotate_left
  · exact he.elim
  rename_i v n
  change List Bool at v
  refine ⟨rfl, rfl, ?_⟩
  obtain ⟨⟨h1, h2⟩, hk⟩ := he
  have hr := isLit_range h1
  have hn := isLit_ne h1
  refine And.intro (fun h => ?_) (fun h => ?_)
  · have h := of_decide_eq_true h
    refine And.intro ⟨by omega, by omega⟩ (And.intro ⟨by omega, by omega⟩ ⟨rfl, _, _, Leads.refl _ _, cast_k (fun x => k (.c (.bool x)) []) hk ?_⟩)
    show v.getD (n - 1).toNat false = _
    unfold holdsL
    rw [show (n - 1).toNat = n.natAbs - 1 by omega, decide_eq_true h]
    simp
  · have h := of_decide_eq_false h
    refine And.intro ⟨by omega, by omega⟩ (And.intro ⟨by omega, by omega⟩ (And.intro ⟨by omega, by omega⟩ ⟨rfl, _, _, Leads.refl _ _, cast_k (fun x => k (.c (.bool x)) []) hk ?_⟩))
    show (!v.getD (0 - n - 1).toNat false) = _
    unfold holdsL
    rw [show (0 - n - 1).toNat = n.natAbs - 1 by omega, decide_eq_false h]
    simp

/-- Variable number i of a list is one, and comes behind the one before. -/
def varAt (l : List Int) (i : Nat) : Bool := decide (1 ≤ l.getD i 0) && (decide (l.getD i 0 ≤ 12) && (decide (i = 0) || decide (l.getD (i - 1) 0 < l.getD i 0)))

def varsL (l : List Int) : Bool := allN l.length (varAt l) && decide (l.length ≤ 4)

def cL12Vars : Con := fun args st => match args, st with
  | [.c (.imm (.int .i64) l)], [] => .req (l.length ≤ bound) (.c (.bool (varsL l))) []
  | _, _ => .fail

theorem k60 : Entry Try.prog 60 cL12Vars := by
  refine entry_of (C := { y := tys, n := 41, h := 0, tab := [] }) mixed tys_ok ?_ (fn := Try.f60) (c := bd Try.f60) (by kernel_rfl) (by kernel_rfl) (by kernel_rfl) (by kernel_rfl) ?_
  · exact fun p h => by cases h
  intro args st k he
  unfold cL12Vars at he
  split at he
  rotate_left
  · exact he.elim
  rename_i l
  refine ⟨rfl, rfl, ?_⟩
  have hb : l.length ≤ 4294967296 := he.1
  change List Int at l
  have no : ∀ i, i < l.length → varAt l i = false → k (.c (.bool false)) [] := fun i hi h => by
    have := he.2
    rw [show varsL l = false by simp only [varsL, allN_false i hi h, Bool.false_and]] at this
    exact this
  refine loop_rule mixed tys_ok tabOk_nil (I := fun i : { i : Nat // ∀ j, j < i → varAt l j = true } => (envOf [(0, .c (.imm int l)), (3, .c (.int .i64 i.1))], [])) (fun i => l.length - i.1) ⟨0, fun j hj => absurd hj (Nat.not_lt_zero j)⟩ ?_ ?_
  · exact leads_to ⟨rfl, rfl, trivial⟩ rfl
  · rintro ⟨i, hi⟩
    refine And.intro (fun h1 => ?_) (fun h1 => ?_)
    · have h1 := of_decide_eq_true h1
      have h' : i < l.length := by dsimp only at h1; omega
      refine And.intro (by kernel_rfl) (And.intro ⟨by omega, h1⟩ (And.intro (fun h2 => ?_) (fun h2 => ?_)))
      · have h2 : decide (l.getD i 0 < 1) = false := h2
        have h2 := of_decide_eq_false h2
        refine And.intro ⟨by omega, h1⟩ (And.intro (fun h3 => ?_) (fun h3 => ?_))
        · have h3 : decide (12 < l.getD i 0) = false := h3
          have h3 := of_decide_eq_false h3
          refine And.intro (fun h4 => ?_) (fun h4 => ?_)
          · have h4 := of_decide_eq_true h4
            have h4' : 0 < i := by dsimp only at h4; omega
            have e1 : ((i : Int) - 1).toNat = i - 1 := by omega
            refine And.intro ⟨by omega, by dsimp only at h1 ⊢; omega⟩ (And.intro ⟨by omega, by dsimp only at h1 ⊢; omega⟩ (And.intro ⟨by omega, h1⟩ (And.intro (fun h5 => ?_) (fun h5 => ?_))))
            · have h5 : decide (l.getD i 0 ≤ l.getD ((i : Int) - 1).toNat 0) = true := h5
              rw [e1] at h5
              have h5 := of_decide_eq_true h5
              refine ⟨rfl, _, _, Leads.refl _ _, no i h' ?_⟩
              have e2 : ¬ i = 0 := by omega
              have e3 : ¬ l.getD (i - 1) 0 < l.getD i 0 := by omega
              simp only [varAt, e2, e3, decide_false, Bool.or_false, Bool.and_false]
            · have h5 : decide (l.getD i 0 ≤ l.getD ((i : Int) - 1).toNat 0) = false := h5
              rw [e1] at h5
              have h5 := of_decide_eq_false h5
              refine And.intro ⟨by dsimp only; omega, by dsimp only; omega⟩ ⟨⟨i + 1, fun j hj => ?_⟩, by dsimp only; omega, ?_⟩
              · rcases Nat.lt_or_ge j i with hj' | hj'
                · exact hi j hj'
                · have : j = i := by omega
                  subst this
                  simp only [varAt, Bool.and_eq_true, Bool.or_eq_true, decide_eq_true_eq]
                  omega
              · exact leads_to ⟨rfl, rfl, trivial⟩ rfl
          · have h4 : decide ((0 : Int) < i) = false := h4
            have h4 := of_decide_eq_false h4
            refine And.intro ⟨by dsimp only; omega, by dsimp only; omega⟩ ⟨⟨i + 1, fun j hj => ?_⟩, by dsimp only; omega, ?_⟩
            · rcases Nat.lt_or_ge j i with hj' | hj'
              · exact hi j hj'
              · have : j = i := by omega
                subst this
                simp only [varAt, Bool.and_eq_true, Bool.or_eq_true, decide_eq_true_eq]
                omega
            · exact leads_to ⟨rfl, rfl, trivial⟩ rfl
        · have h3 : decide (12 < l.getD i 0) = true := h3
          have h3 := of_decide_eq_true h3
          refine ⟨rfl, _, _, Leads.refl _ _, no i h' ?_⟩
          have e3 : ¬ l.getD i 0 ≤ 12 := by omega
          simp only [varAt, e3, decide_false, Bool.false_and, Bool.and_false]
      · have h2 : decide (l.getD i 0 < 1) = true := h2
        have h2 := of_decide_eq_true h2
        refine ⟨rfl, _, _, Leads.refl _ _, no i h' ?_⟩
        have e3 : ¬ 1 ≤ l.getD i 0 := by omega
        simp only [varAt, e3, decide_false, Bool.false_and]
    · have h1 := of_decide_eq_false h1
      refine ⟨rfl, _, _, Leads.refl _ _, cast_k (fun x => k (.c (.bool x)) []) he.2 ?_⟩
      simp only [varsL, allN_true (fun j (hj : j < l.length) => hi j (by dsimp only at h1; omega)), Bool.true_and]
      exact decide_eq_decide.2 (by omega)

end Go.AE.Y1
