/-
  Contracts kept by impl.holds, the closure of impl.CubeHolds, slices.IndexFunc and slices.ContainsFunc over it, impl.CubeHolds. Each holds under what its contract requires, and nothing else.
-/
import Derived.Test.YtkipgkpekkjebaaY1B
namespace Go.AE.Y1
open Go Go.AE Go.Proofs

/-- A literal holds under values. -/
def holdsL (v : List Bool) (n : Int) : Bool := v.getD (n.natAbs - 1) false == decide (0 < n)

def cHolds : Con := fun args st => match args, st with
  | [.c (.int .i64 n), .c (.imm .bool v)], [] => .req (isLit n = true ∧ v.length = 12) (.c (.bool (holdsL v n))) []
  | _, _ => .fail

theorem isLit_ne {n : Int} (h : isLit n = true) : n ≠ 0 := by
  simp only [isLit, Bool.and_eq_true, bne_iff_ne, decide_eq_true_eq] at h
  exact h.1

theorem k59 : Entry Try.prog 59 cHolds := by
  refine entry_of (C := { y := tys, n := 14, h := 0, tab := [(98, cVariableOf)] }) mixed tys_ok ?_ (fn := Try.f59) (c := bd Try.f59) (by kernel_rfl) (by kernel_rfl) (by kernel_rfl) (by kernel_rfl) ?_
  · simp only [List.forall_mem_cons]
    exact ⟨k98, fun p h => by cases h⟩
  intro args st k he
  unfold cHolds at he
  split at he
  rotate_left
  · exact he.elim
  rename_i n v
  change List Bool at v
  refine ⟨rfl, rfl, ?_⟩
  obtain ⟨⟨h1, h2⟩, hk⟩ := he
  have hr := isLit_range h1
  have hn := isLit_ne h1
  refine And.intro ⟨by omega, by omega⟩ (And.intro ⟨by omega, by omega⟩ (And.intro ⟨by omega, by omega⟩ ?_))
  refine ⟨rfl, _, _, Leads.refl _ _, cast_k (fun x => k (.c (.bool x)) []) hk ?_⟩
  show (v.getD (max n (0 - n) - 1).toNat false == decide (0 < n)) = _
  rw [show (max n (0 - n) - 1).toNat = n.natAbs - 1 by omega]
  rfl

def cNotHolds : Con := fun args st => match args, st with
  | [.c (.int .i64 n), .c (.ptr 0 0)], [(0, .rc [.imm .bool v])] => .req (isLit n = true ∧ v.length = 12) (.c (.bool (!holdsL v n))) [(0, .rc [.imm .bool v])]
  | _, _ => .fail

theorem k58 : Entry Try.prog 58 cNotHolds := by
  refine entry_of (C := { y := tys, n := 8, h := 1, tab := [(59, cHolds)] }) mixed tys_ok ?_ (fn := Try.f58) (c := bd Try.f58) (by kernel_rfl) (by kernel_rfl) (by kernel_rfl) (by kernel_rfl) ?_
  · simp only [List.forall_mem_cons]
    exact ⟨k59, fun p h => by cases h⟩
  intro args st k he
  unfold cNotHolds at he
  split at he
  rotate_left
  · exact he.elim
  rename_i n v
  refine ⟨rfl, rfl, ?_⟩
  exact And.intro he.1 ⟨rfl, _, _, Leads.refl _ _, he.2⟩

def lits (l : List Int) : Prop := ∀ i, i < l.length → isLit (l.getD i 0) = true

def cIndexNot : Con := fun args st => match args, st with
  | [.c (.imm (.int .i64) l), .c (.fn 58 [0])], [(0, .rc [.imm .bool v])] => .req (l.length ≤ bound ∧ v.length = 12 ∧ lits l) (.c (.int .i64 (idx l.length fun i => !holdsL v (l.getD i 0)))) [(0, .rc [.imm .bool v])]
  | _, _ => .fail

theorem k99 : Entry Try.prog 99 cIndexNot := by
  refine entry_of (C := { y := tys, n := 19, h := 1, tab := [(58, cNotHolds)] }) mixed tys_ok ?_ (fn := Try.f99) (c := bd Try.f99) (by kernel_rfl) (by kernel_rfl) (by kernel_rfl) (by kernel_rfl) ?_
  · simp only [List.forall_mem_cons]
    exact ⟨k58, fun p h => by cases h⟩
  intro args st k he
  unfold cIndexNot at he
  split at he
  rotate_left
  · exact he.elim
  rename_i l v
  change List Int at l
  change List Bool at v
  refine ⟨rfl, rfl, ?_⟩
  obtain ⟨⟨hb, hv, hl⟩, hk⟩ := he
  have hb : l.length ≤ 4294967296 := hb
  refine loop_rule mixed tys_ok (tabOk_of (by simp only [List.forall_mem_cons]; exact ⟨k58, fun p h => by cases h⟩)) (I := fun i : { i : Nat // ∀ j, j < i → (!holdsL v (l.getD j 0)) = false } => (envOf [(0, .c (.imm int l)), (1, .c (.fn 58 [0])), (7, .c (.int .i64 l.length)), (8, .c (.int .i64 i.1))], [(0, .rc [.imm .bool v])])) (fun i => l.length - i.1) ⟨0, fun j hj => absurd hj (Nat.not_lt_zero j)⟩ ?_ ?_
  · exact leads_to ⟨rfl, rfl, rfl, rfl, trivial⟩ rfl
  · rintro ⟨i, hi⟩
    refine And.intro (fun h1 => ?_) (fun h1 => ?_)
    · have h1 := of_decide_eq_true h1
      have h' : i < l.length := by dsimp only at h1; omega
      refine And.intro ⟨by omega, h1⟩ (And.intro ⟨hl i h', hv⟩ (And.intro (fun h2 => ?_) (fun h2 => ?_)))
      · have h2 : (!holdsL v (l.getD i 0)) = true := h2
        exact ⟨rfl, _, _, Leads.refl _ _, cast_k (fun x => k (.c (.int .i64 x)) [(0, .rc [.imm .bool v])]) hk (idx_some h' h2 hi).symm⟩
      · have h2 : (!holdsL v (l.getD i 0)) = false := h2
        refine And.intro ⟨by dsimp only; omega, by dsimp only; omega⟩ ⟨⟨i + 1, fun j hj => ?_⟩, by dsimp only; omega, ?_⟩
        · rcases Nat.lt_or_ge j i with hj' | hj'
          · exact hi j hj'
          · have : j = i := by omega
            subst this
            exact h2
        · exact leads_to ⟨rfl, rfl, rfl, rfl, trivial⟩ rfl
    · have h1 := of_decide_eq_false h1
      exact ⟨rfl, _, _, Leads.refl _ _, cast_k (fun x => k (.c (.int .i64 x)) [(0, .rc [.imm .bool v])]) hk (idx_none fun j hj => hi j (by dsimp only at h1; omega)).symm⟩

def cContainsNot : Con := fun args st => match args, st with
  | [.c (.imm (.int .i64) l), .c (.fn 58 [0])], [(0, .rc [.imm .bool v])] => .req (l.length ≤ bound ∧ v.length = 12 ∧ lits l) (.c (.bool (!allN l.length fun i => holdsL v (l.getD i 0)))) [(0, .rc [.imm .bool v])]
  | _, _ => .fail

theorem k57 : Entry Try.prog 57 cContainsNot := by
  refine entry_of (C := { y := tys, n := 9, h := 1, tab := [(99, cIndexNot)] }) mixed tys_ok ?_ (fn := Try.f57) (c := bd Try.f57) (by kernel_rfl) (by kernel_rfl) (by kernel_rfl) (by kernel_rfl) ?_
  · simp only [List.forall_mem_cons]
    exact ⟨k99, fun p h => by cases h⟩
  intro args st k he
  unfold cContainsNot at he
  split at he
  rotate_left
  · exact he.elim
  rename_i l v
  refine ⟨rfl, rfl, ?_⟩
  refine And.intro he.1 ⟨rfl, _, _, Leads.refl _ _, cast_k (fun x => k (.c (.bool x)) [(0, .rc [.imm .bool v])]) he.2 ?_⟩
  show decide (0 ≤ idx _ _) = _
  rw [idx_nonneg]
  simp only [Bool.not_not]

def cubeHoldsL (l : List Int) (v : List Bool) : Bool := isCubeL l && (decide (v.length = 12) && allN l.length fun i => holdsL v (l.getD i 0))

theorem isCubeL_lits {l : List Int} (h : isCubeL l = true) : lits l := fun i hi => by
  simp only [isCubeL, Bool.and_eq_true] at h
  exact cubeAt_lit (allN_iff.1 h.1 i hi)

def cCubeHolds : Con := fun args st => match args, st with
  | [.c (.imm (.int .i64) l), .c (.imm .bool v)], [] => .req (l.length ≤ bound ∧ v.length ≤ bound) (.c (.bool (cubeHoldsL l v))) []
  | _, _ => .fail

theorem k18 : Entry Try.prog 18 cCubeHolds := by
  refine entry_of (C := { y := tys, n := 18, h := 0, tab := [(56, cIsCube), (57, cContainsNot)] }) mixed tys_ok ?_ (fn := Try.f18) (c := bd Try.f18) (by kernel_rfl) (by kernel_rfl) (by kernel_rfl) (by kernel_rfl) ?_
  · simp only [List.forall_mem_cons]
    exact ⟨k56, k57, fun p h => by cases h⟩
  intro args st k he
  unfold cCubeHolds at he
  split at he
  rotate_left
  · exact he.elim
  rename_i l v
  change List Int at l
  change List Bool at v
  refine ⟨rfl, rfl, ?_⟩
  obtain ⟨⟨hb, hv⟩, hk⟩ := he
  refine And.intro hb ?_
  refine And.intro (fun h1 => ?_) (fun h1 => ?_)
  · refine And.intro (fun h2 => ?_) (fun h2 => ?_)
    · have h2 : ((v.length : Int) == 12) = true := h2
      have h2 : v.length = 12 := by have := beq_iff_eq.1 h2; omega
      refine And.intro ⟨hb, h2, isCubeL_lits h1⟩ ?_
      refine ⟨rfl, _, _, leads_none [4] rfl rfl, cast_k (fun x => k (.c (.bool x)) []) hk ?_⟩
      simp [cubeHoldsL, h1, h2]
    · have h2 : ((v.length : Int) == 12) = false := h2
      have h2 : v.length ≠ 12 := by have := beq_eq_false_iff_ne.1 h2; omega
      refine ⟨rfl, _, _, leads_none [4] rfl rfl, cast_k (fun x => k (.c (.bool x)) []) hk ?_⟩
      simp [cubeHoldsL, h1, h2]
  · have h1 : isCubeL l = false := h1
    refine ⟨rfl, _, _, leads_none [4] rfl rfl, cast_k (fun x => k (.c (.bool x)) []) hk ?_⟩
    simp [cubeHoldsL, h1]

end Go.AE.Y1
