/-
  The seat's table of types, checked against the program. No conditions.
-/
import Derived.Test.YtkipgkpekkjebaaAEModel
import Derived.Test.YtkipgkpekkjebaaProg
namespace Go.AE.Y
open Go Go.AE Go.Proofs

def tys : Tys := {
  ty := [(3, (.int .i64)), (4, .bool), (5, (.int .u8)), (22, (.sl (.int .i64))), (23, (.sl .bool)), (36, (.sl (.int .u8))), (97, (.pair (.sl (.int .u8)) (.int .i64)))]
  ag := [(3, false), (4, false), (5, false), (22, false), (23, false), (36, false), (97, true)]
  el := [(22, 3), (23, 4), (36, 5)]
  fl := [(97, [(0, 36), (1, 3)])] }

theorem ty3 : TyOk1 Try.prog 3 ((.int .i64)) := ⟨by kernel_rfl, by kernel_rfl, by kernel_rfl, by kernel_rfl, by kernel_rfl, by kernel_rfl, (by show descOf Try.prog 3 = _; kernel_rfl), by kernel_rfl⟩
theorem ty4 : TyOk1 Try.prog 4 (.bool) := ⟨by kernel_rfl, by kernel_rfl, by kernel_rfl, by kernel_rfl, by kernel_rfl, by kernel_rfl, (by show descOf Try.prog 4 = _; kernel_rfl), by kernel_rfl⟩
theorem ty5 : TyOk1 Try.prog 5 ((.int .u8)) := ⟨by kernel_rfl, by kernel_rfl, by kernel_rfl, by kernel_rfl, by kernel_rfl, by kernel_rfl, (by show descOf Try.prog 5 = _; kernel_rfl), by kernel_rfl⟩
theorem ty22 : TyOk1 Try.prog 22 ((.sl (.int .i64))) := ⟨by kernel_rfl, by kernel_rfl, by kernel_rfl, by kernel_rfl, by kernel_rfl, by kernel_rfl, ⟨3, by kernel_rfl⟩, by kernel_rfl⟩
theorem ty23 : TyOk1 Try.prog 23 ((.sl .bool)) := ⟨by kernel_rfl, by kernel_rfl, by kernel_rfl, by kernel_rfl, by kernel_rfl, by kernel_rfl, ⟨4, by kernel_rfl⟩, by kernel_rfl⟩
theorem ty36 : TyOk1 Try.prog 36 ((.sl (.int .u8))) := ⟨by kernel_rfl, by kernel_rfl, by kernel_rfl, by kernel_rfl, by kernel_rfl, by kernel_rfl, ⟨5, by kernel_rfl⟩, by kernel_rfl⟩
theorem ty97 : TyOk1 Try.prog 97 ((.pair (.sl (.int .u8)) (.int .i64))) := ⟨by kernel_rfl, by kernel_rfl, by kernel_rfl, by kernel_rfl, by kernel_rfl, by kernel_rfl, ⟨fieldsOf Try.prog 97, by kernel_rfl⟩, by kernel_rfl⟩
theorem fl97 : FlOk1 Try.prog 97 [(0, 36), (1, 3)] := ⟨by kernel_rfl, by kernel_rfl, by
  simp only [List.forall_mem_cons]
  exact ⟨⟨by kernel_rfl, by kernel_rfl⟩, ⟨by kernel_rfl, by kernel_rfl⟩, fun p h => by cases h⟩⟩

theorem tys_ok : TysOk Try.prog tys := by
  refine tysOk_of ?_ ?_ ?_ ?_
  · simp only [tys, List.forall_mem_cons]
    exact ⟨ty3, ty4, ty5, ty22, ty23, ty36, ty97, fun p h => by cases h⟩
  · simp only [tys, List.forall_mem_cons]
    exact ⟨⟨by kernel_rfl, by kernel_rfl⟩, ⟨by kernel_rfl, by kernel_rfl⟩, ⟨by kernel_rfl, by kernel_rfl⟩, ⟨by kernel_rfl, by kernel_rfl⟩, ⟨by kernel_rfl, by kernel_rfl⟩, ⟨by kernel_rfl, by kernel_rfl⟩, ⟨by kernel_rfl, by kernel_rfl⟩, fun p h => by cases h⟩
  · simp only [tys, List.forall_mem_cons]
    exact ⟨by kernel_rfl, by kernel_rfl, by kernel_rfl, fun p h => by cases h⟩
  · simp only [tys, List.forall_mem_cons]
    exact ⟨fl97, fun p h => by cases h⟩

theorem mixed : Try.prog.follows .mixedOrders = true := by kernel_rfl

end Go.AE.Y
