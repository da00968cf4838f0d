/-
  Contracts kept by impl.within, impl.isLiteral, impl.variableOf, laws.toIntS. Each holds under what its contract requires, and nothing else.
-/
import Derived.Test.YtkipgkpekkjebaaY1Tab
import Derived.Test.YtkipgkpekkjebaaAEList
namespace Go.AE.Y1
open Go Go.AE Go.Proofs

noncomputable def bd (fn : Func) : Code := match fn.body with | some c => c | none => .skip

def cWithin : Con := fun args st => match args, st with
  | [.c (.int .i64 n), .c (.int .i64 a), .c (.int .i64 b)], [] => .ret (.c (.bool (decide (a ≤ n) && decide (n ≤ b)))) []
  | _, _ => .fail

theorem k100 : Entry Try.prog 100 cWithin := by
  refine entry_of (C := { y := tys, n := 15, h := 0, tab := [] }) mixed tys_ok (fun p h => by cases h) (fn := Try.f100) (c := bd Try.f100) (by kernel_rfl) (by kernel_rfl) (by kernel_rfl) (by kernel_rfl) ?_
  intro args st k he
  unfold cWithin at he
  split at he
  · rename_i n a b
    refine ⟨rfl, rfl, ?_⟩
    refine And.intro (fun h => ?_) (fun h => ?_)
    · rw [h] at he
      exact ⟨rfl, _, _, Leads.refl _ _, he⟩
    · rw [h] at he
      exact ⟨rfl, _, _, Leads.refl _ _, he⟩
  · exact he.elim
end Go.AE.Y1
namespace Go.AE.Y1
open Go Go.AE Go.Proofs

/-- A literal: not 0, from -12 to 12. -/
def isLit (n : Int) : Bool := n != 0 && (decide (-12 ≤ n) && decide (n ≤ 12))

def cIsLiteral : Con := fun args st => match args, st with
  | [.c (.int .i64 n)], [] => .ret (.c (.bool (isLit n))) []
  | _, _ => .fail

theorem k97 : Entry Try.prog 97 cIsLiteral := by
  refine entry_of (C := { y := tys, n := 9, h := 0, tab := [(100, cWithin)] }) mixed tys_ok ?_ (fn := Try.f97) (c := bd Try.f97) (by kernel_rfl) (by kernel_rfl) (by kernel_rfl) (by kernel_rfl) ?_
  · simp only [List.forall_mem_cons]
    exact ⟨k100, fun p h => by cases h⟩
  intro args st k he
  unfold cIsLiteral at he
  split at he
  · rename_i n
    refine ⟨rfl, rfl, ?_⟩
    refine And.intro (fun h => ?_) (fun h => ?_)
    · refine ⟨rfl, _, _, Leads.refl _ _, cast_k (fun x => k (.c (.bool x)) []) he ?_⟩
      simp only [isLit, h, Bool.true_and]
    · refine ⟨rfl, _, _, Leads.refl _ _, cast_k (fun x => k (.c (.bool x)) []) he ?_⟩
      simp only [isLit, h, Bool.not_true, Bool.false_and]
  · exact he.elim

def cVariableOf : Con := fun args st => match args, st with
  | [.c (.int .i64 n)], [] => .req (inR .i64 (0 - n)) (.c (.int .i64 (max n (0 - n)))) []
  | _, _ => .fail

theorem k98 : Entry Try.prog 98 cVariableOf := by
  refine entry_of (C := { y := tys, n := 7, h := 0, tab := [] }) mixed tys_ok (fun p h => by cases h) (fn := Try.f98) (c := bd Try.f98) (by kernel_rfl) (by kernel_rfl) (by kernel_rfl) (by kernel_rfl) ?_
  intro args st k he
  unfold cVariableOf at he
  split at he
  · rename_i n
    refine ⟨rfl, rfl, ?_⟩
    exact ⟨he.1, rfl, _, _, Leads.refl _ _, he.2⟩
  · exact he.elim

def cToIntS : Con := fun args st => match args, st with
  | [.c (.imm (.int .i64) l)], [] => .req (l.length ≤ bound) (.c (.own 7)) [(7, .sl 3 (.int .i64) l .shallow)]
  | _, _ => .fail

theorem k16 : Entry Try.prog 16 cToIntS := by
  refine entry_of (C := { y := tys, n := 22, h := 0, tab := [] }) mixed tys_ok (fun p h => by cases h) (fn := Try.f16) (c := bd Try.f16) (by kernel_rfl) (by kernel_rfl) (by kernel_rfl) (by kernel_rfl) ?_
  intro args st k he
  unfold cToIntS at he
  split at he
  · rename_i l
    refine ⟨rfl, rfl, ?_⟩
    have hb := he.1
    refine And.intro ⟨by omega, by simp only [bound] at hb ⊢; omega, rfl⟩ ?_
    refine loop_rule mixed tys_ok tabOk_nil (I := fun i : Nat => (envOf [(0, .c (.imm int l)), (3, .c (.own 7)), (4, .c (.int .i64 i))], [(7, .sl 3 int (l.take i ++ List.replicate (l.length - i) (0 : Int)) .shallow)])) (fun i => l.length - i) 0 ?_ ?_
    · exact leads_to ⟨rfl, rfl, rfl, trivial⟩ rfl
    · intro i
      refine And.intro (fun h => ?_) (fun h => ?_)
      · have h := of_decide_eq_true h
        have h' : i < l.length := by omega
        refine And.intro ⟨by omega, h⟩ (And.intro ⟨by omega, ?_⟩ (And.intro ⟨by omega, by simp only [bound] at hb; omega⟩ ⟨i + 1, by omega, ?_⟩))
        · simp; omega
        · refine leads_to ⟨rfl, rfl, rfl, trivial⟩ (congrArg (fun x => [(7, Ob.sl 3 int x .shallow)]) ?_)
          exact copy_step l _ _ h'
      · have h := of_decide_eq_false h
        exact ⟨rfl, _, _, Leads.refl _ _, cast_k (fun x => k (.c (.own 7)) [(7, .sl 3 int x .shallow)]) he.2 (by rw [List.take_of_length_le (by omega), show l.length - i = 0 by omega]; simp)⟩
  · exact he.elim
end Go.AE.Y1
