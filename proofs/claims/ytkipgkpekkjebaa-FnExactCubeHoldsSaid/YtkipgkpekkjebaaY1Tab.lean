/-
  The seat's table of types, checked against the program. No conditions.
-/
import Derived.Test.YtkipgkpekkjebaaAETab
import Derived.Test.YtkipgkpekkjebaaProg
namespace Go.AE.Y1
open Go Go.AE Go.Proofs

abbrev int : Ty := .int .i64
abbrev ints : Ty := .sl int
abbrev bools : Ty := .sl .bool

def tys : Tys := {
  ty := [(3, int), (4, .bool), (22, ints), (23, bools), (29, .sl ints)]
  ag := [(3, false), (4, false), (22, false), (23, false), (29, false)]
  el := [(22, 3), (23, 4), (29, 22)]
  fl := [] }

theorem tys_ok : TysOk Try.prog tys := by
  refine tysOk_of ?_ ?_ ?_ ?_
  · simp only [tys, List.forall_mem_cons]
    refine ⟨⟨by kernel_rfl, by kernel_rfl, by kernel_rfl, by kernel_rfl, by kernel_rfl, by kernel_rfl, ?_, by kernel_rfl⟩, ⟨by kernel_rfl, by kernel_rfl, by kernel_rfl, by kernel_rfl, by kernel_rfl, by kernel_rfl, ?_, by kernel_rfl⟩,
     ⟨by kernel_rfl, by kernel_rfl, by kernel_rfl, by kernel_rfl, by kernel_rfl, by kernel_rfl, ⟨3, ?_⟩, by kernel_rfl⟩, ⟨by kernel_rfl, by kernel_rfl, by kernel_rfl, by kernel_rfl, by kernel_rfl, by kernel_rfl, ⟨4, ?_⟩, by kernel_rfl⟩,
     ⟨by kernel_rfl, by kernel_rfl, by kernel_rfl, by kernel_rfl, by kernel_rfl, by kernel_rfl, ⟨22, ?_⟩, by kernel_rfl⟩, fun p h => by cases h⟩
    · show descOf Try.prog 3 = .int .i64
      kernel_rfl
    · show descOf Try.prog 4 = .bool
      kernel_rfl
    all_goals kernel_rfl
  · simp only [tys, List.forall_mem_cons]
    exact ⟨⟨by kernel_rfl, by kernel_rfl⟩, ⟨by kernel_rfl, by kernel_rfl⟩, ⟨by kernel_rfl, by kernel_rfl⟩, ⟨by kernel_rfl, by kernel_rfl⟩, ⟨by kernel_rfl, by kernel_rfl⟩, fun p h => by cases h⟩
  · simp only [tys, List.forall_mem_cons]
    exact ⟨by kernel_rfl, by kernel_rfl, by kernel_rfl, fun p h => by cases h⟩
  · intro p h; cases h

theorem mixed : Try.prog.follows .mixedOrders = true := by kernel_rfl

end Go.AE.Y1
