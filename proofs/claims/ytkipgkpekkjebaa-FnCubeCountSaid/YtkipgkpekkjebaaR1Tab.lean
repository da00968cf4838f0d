/-
  The seat's table of types, checked against the program. No conditions.
-/
import Derived.Test.YtkipgkpekkjebaaAEModel
import Derived.Test.YtkipgkpekkjebaaProg
namespace Go.AE.Y
open Go Go.AE Go.Proofs

def tys : Tys := {
  ty := [(3, (.int .i64)), (4, .bool), (5, (.int .u8)), (22, (.sl (.int .i64))), (23, (.sl .bool)), (29, (.sl (.sl (.int .i64)))), (36, (.sl (.int .u8))), (42, (.sl (.pair (.sl (.pair (.int .i64) (.int .i64))) (.int .i64)))), (48, (.sl (.pair (.sl (.pair (.int .i64) (.int .i64))) (.int .i64)))), (76, (.sl (.pair (.int .i64) (.int .i64)))), (78, (.pair (.sl (.pair (.int .i64) (.int .i64))) (.int .i64))), (79, (.sl (.pair (.int .i64) (.int .i64)))), (81, (.pair (.sl (.pair (.int .i64) (.int .i64))) (.int .i64))), (93, (.pair (.int .i64) (.int .i64))), (97, (.pair (.sl (.int .u8)) (.int .i64))), (112, (.pair (.int .i64) (.int .i64)))]
  ag := [(3, false), (4, false), (5, false), (22, false), (23, false), (29, false), (36, false), (42, false), (48, false), (76, false), (78, true), (79, false), (81, true), (93, true), (97, true), (112, true)]
  el := [(22, 3), (23, 4), (29, 22), (36, 5), (42, 81), (48, 78), (76, 112), (79, 93)]
  fl := [(78, [(0, 76), (1, 3)]), (81, [(0, 79), (1, 3)]), (93, [(0, 3), (1, 3)]), (97, [(0, 36), (1, 3)]), (112, [(0, 3), (1, 3)])] }

theorem ty3 : TyOk1 Try.prog 3 ((.int .i64)) := ⟨by kernel_rfl, by kernel_rfl, by kernel_rfl, by kernel_rfl, by kernel_rfl, by kernel_rfl, (by show descOf Try.prog 3 = _; kernel_rfl), by kernel_rfl⟩
theorem ty4 : TyOk1 Try.prog 4 (.bool) := ⟨by kernel_rfl, by kernel_rfl, by kernel_rfl, by kernel_rfl, by kernel_rfl, by kernel_rfl, (by show descOf Try.prog 4 = _; kernel_rfl), by kernel_rfl⟩
theorem ty5 : TyOk1 Try.prog 5 ((.int .u8)) := ⟨by kernel_rfl, by kernel_rfl, by kernel_rfl, by kernel_rfl, by kernel_rfl, by kernel_rfl, (by show descOf Try.prog 5 = _; kernel_rfl), by kernel_rfl⟩
theorem ty22 : TyOk1 Try.prog 22 ((.sl (.int .i64))) := ⟨by kernel_rfl, by kernel_rfl, by kernel_rfl, by kernel_rfl, by kernel_rfl, by kernel_rfl, ⟨3, by kernel_rfl⟩, by kernel_rfl⟩
theorem ty23 : TyOk1 Try.prog 23 ((.sl .bool)) := ⟨by kernel_rfl, by kernel_rfl, by kernel_rfl, by kernel_rfl, by kernel_rfl, by kernel_rfl, ⟨4, by kernel_rfl⟩, by kernel_rfl⟩
theorem ty29 : TyOk1 Try.prog 29 ((.sl (.sl (.int .i64)))) := ⟨by kernel_rfl, by kernel_rfl, by kernel_rfl, by kernel_rfl, by kernel_rfl, by kernel_rfl, ⟨22, by kernel_rfl⟩, by kernel_rfl⟩
theorem ty36 : TyOk1 Try.prog 36 ((.sl (.int .u8))) := ⟨by kernel_rfl, by kernel_rfl, by kernel_rfl, by kernel_rfl, by kernel_rfl, by kernel_rfl, ⟨5, by kernel_rfl⟩, by kernel_rfl⟩
theorem ty42 : TyOk1 Try.prog 42 ((.sl (.pair (.sl (.pair (.int .i64) (.int .i64))) (.int .i64)))) := ⟨by kernel_rfl, by kernel_rfl, by kernel_rfl, by kernel_rfl, by kernel_rfl, by kernel_rfl, ⟨81, by kernel_rfl⟩, by kernel_rfl⟩
theorem ty48 : TyOk1 Try.prog 48 ((.sl (.pair (.sl (.pair (.int .i64) (.int .i64))) (.int .i64)))) := ⟨by kernel_rfl, by kernel_rfl, by kernel_rfl, by kernel_rfl, by kernel_rfl, by kernel_rfl, ⟨78, by kernel_rfl⟩, by kernel_rfl⟩
theorem ty76 : TyOk1 Try.prog 76 ((.sl (.pair (.int .i64) (.int .i64)))) := ⟨by kernel_rfl, by kernel_rfl, by kernel_rfl, by kernel_rfl, by kernel_rfl, by kernel_rfl, ⟨112, by kernel_rfl⟩, by kernel_rfl⟩
theorem ty78 : TyOk1 Try.prog 78 ((.pair (.sl (.pair (.int .i64) (.int .i64))) (.int .i64))) := ⟨by kernel_rfl, by kernel_rfl, by kernel_rfl, by kernel_rfl, by kernel_rfl, by kernel_rfl, ⟨fieldsOf Try.prog 78, by kernel_rfl⟩, by kernel_rfl⟩
theorem ty79 : TyOk1 Try.prog 79 ((.sl (.pair (.int .i64) (.int .i64)))) := ⟨by kernel_rfl, by kernel_rfl, by kernel_rfl, by kernel_rfl, by kernel_rfl, by kernel_rfl, ⟨93, by kernel_rfl⟩, by kernel_rfl⟩
theorem ty81 : TyOk1 Try.prog 81 ((.pair (.sl (.pair (.int .i64) (.int .i64))) (.int .i64))) := ⟨by kernel_rfl, by kernel_rfl, by kernel_rfl, by kernel_rfl, by kernel_rfl, by kernel_rfl, ⟨fieldsOf Try.prog 81, by kernel_rfl⟩, by kernel_rfl⟩
theorem ty93 : TyOk1 Try.prog 93 ((.pair (.int .i64) (.int .i64))) := ⟨by kernel_rfl, by kernel_rfl, by kernel_rfl, by kernel_rfl, by kernel_rfl, by kernel_rfl, ⟨fieldsOf Try.prog 93, by kernel_rfl⟩, by kernel_rfl⟩
theorem ty97 : TyOk1 Try.prog 97 ((.pair (.sl (.int .u8)) (.int .i64))) := ⟨by kernel_rfl, by kernel_rfl, by kernel_rfl, by kernel_rfl, by kernel_rfl, by kernel_rfl, ⟨fieldsOf Try.prog 97, by kernel_rfl⟩, by kernel_rfl⟩
theorem ty112 : TyOk1 Try.prog 112 ((.pair (.int .i64) (.int .i64))) := ⟨by kernel_rfl, by kernel_rfl, by kernel_rfl, by kernel_rfl, by kernel_rfl, by kernel_rfl, ⟨fieldsOf Try.prog 112, by kernel_rfl⟩, by kernel_rfl⟩
theorem fl78 : FlOk1 Try.prog 78 [(0, 76), (1, 3)] := ⟨by kernel_rfl, by kernel_rfl, by
  simp only [List.forall_mem_cons]
  exact ⟨⟨by kernel_rfl, by kernel_rfl⟩, ⟨by kernel_rfl, by kernel_rfl⟩, fun p h => by cases h⟩⟩
theorem fl81 : FlOk1 Try.prog 81 [(0, 79), (1, 3)] := ⟨by kernel_rfl, by kernel_rfl, by
  simp only [List.forall_mem_cons]
  exact ⟨⟨by kernel_rfl, by kernel_rfl⟩, ⟨by kernel_rfl, by kernel_rfl⟩, fun p h => by cases h⟩⟩
theorem fl93 : FlOk1 Try.prog 93 [(0, 3), (1, 3)] := ⟨by kernel_rfl, by kernel_rfl, by
  simp only [List.forall_mem_cons]
  exact ⟨⟨by kernel_rfl, by kernel_rfl⟩, ⟨by kernel_rfl, by kernel_rfl⟩, fun p h => by cases h⟩⟩
theorem fl97 : FlOk1 Try.prog 97 [(0, 36), (1, 3)] := ⟨by kernel_rfl, by kernel_rfl, by
  simp only [List.forall_mem_cons]
  exact ⟨⟨by kernel_rfl, by kernel_rfl⟩, ⟨by kernel_rfl, by kernel_rfl⟩, fun p h => by cases h⟩⟩
theorem fl112 : FlOk1 Try.prog 112 [(0, 3), (1, 3)] := ⟨by kernel_rfl, by kernel_rfl, by
  simp only [List.forall_mem_cons]
  exact ⟨⟨by kernel_rfl, by kernel_rfl⟩, ⟨by kernel_rfl, by kernel_rfl⟩, fun p h => by cases h⟩⟩

theorem tys_ok : TysOk Try.prog tys := by
  refine tysOk_of ?_ ?_ ?_ ?_
  · simp only [tys, List.forall_mem_cons]
    exact ⟨ty3, ty4, ty5, ty22, ty23, ty29, ty36, ty42, ty48, ty76, ty78, ty79, ty81, ty93, ty97, ty112, fun p h => by cases h⟩
  · simp only [tys, List.forall_mem_cons]
    exact ⟨⟨by kernel_rfl, by kernel_rfl⟩, ⟨by kernel_rfl, by kernel_rfl⟩, ⟨by kernel_rfl, by kernel_rfl⟩, ⟨by kernel_rfl, by kernel_rfl⟩, ⟨by kernel_rfl, by kernel_rfl⟩, ⟨by kernel_rfl, by kernel_rfl⟩, ⟨by kernel_rfl, by kernel_rfl⟩, ⟨by kernel_rfl, by kernel_rfl⟩, ⟨by kernel_rfl, by kernel_rfl⟩, ⟨by kernel_rfl, by kernel_rfl⟩, ⟨by kernel_rfl, by kernel_rfl⟩, ⟨by kernel_rfl, by kernel_rfl⟩, ⟨by kernel_rfl, by kernel_rfl⟩, ⟨by kernel_rfl, by kernel_rfl⟩, ⟨by kernel_rfl, by kernel_rfl⟩, ⟨by kernel_rfl, by kernel_rfl⟩, fun p h => by cases h⟩
  · simp only [tys, List.forall_mem_cons]
    exact ⟨by kernel_rfl, by kernel_rfl, by kernel_rfl, by kernel_rfl, by kernel_rfl, by kernel_rfl, by kernel_rfl, by kernel_rfl, fun p h => by cases h⟩
  · simp only [tys, List.forall_mem_cons]
    exact ⟨fl78, fl81, fl93, fl97, fl112, fun p h => by cases h⟩

theorem mixed : Try.prog.follows .mixedOrders = true := by kernel_rfl

end Go.AE.Y
