/-
  The seat's table of types, checked against the program. No conditions.
-/
import Derived.Test.YtmpjmcflooeigaaAEModel
import Derived.Test.YtmpjmcflooeigaaProg
namespace Go.AE.Y
open Go Go.AE Go.Proofs

def tys : Tys := {
  eq := []
  ty := [(3, (.int .i64)), (4, .bool), (5, (.int .u8)), (22, (.sl (.int .u8))), (23, (.sl (.pair (.sl (.pair (.int .i64) (.int .i64))) (.int .i64)))), (24, (.sl .bool)), (33, (.sl (.int .i64))), (71, (.sl (.pair (.int .i64) (.int .i64)))), (73, (.pair (.sl (.pair (.int .i64) (.int .i64))) (.int .i64))), (109, (.pair (.int .i64) (.int .i64))), (119, (.pair (.sl (.int .u8)) (.int .i64)))]
  ag := [(3, false), (4, false), (5, false), (22, false), (23, false), (24, false), (33, false), (71, false), (73, true), (109, true), (119, true)]
  el := [(22, 5), (23, 73), (24, 4), (33, 3), (71, 109)]
  fl := [(73, [(0, 71), (1, 3)]), (109, [(0, 3), (1, 3)]), (119, [(0, 22), (1, 3)])] }

theorem ty3 : TyOk1 Try.prog 3 ((.int .i64)) := ⟨by kernel_rfl, by kernel_rfl, by kernel_rfl, by kernel_rfl, by kernel_rfl, by kernel_rfl, (by show descOf Try.prog 3 = _; kernel_rfl), by kernel_rfl⟩
theorem ty4 : TyOk1 Try.prog 4 (.bool) := ⟨by kernel_rfl, by kernel_rfl, by kernel_rfl, by kernel_rfl, by kernel_rfl, by kernel_rfl, (by show descOf Try.prog 4 = _; kernel_rfl), by kernel_rfl⟩
theorem ty5 : TyOk1 Try.prog 5 ((.int .u8)) := ⟨by kernel_rfl, by kernel_rfl, by kernel_rfl, by kernel_rfl, by kernel_rfl, by kernel_rfl, (by show descOf Try.prog 5 = _; kernel_rfl), by kernel_rfl⟩
theorem ty22 : TyOk1 Try.prog 22 ((.sl (.int .u8))) := ⟨by kernel_rfl, by kernel_rfl, by kernel_rfl, by kernel_rfl, by kernel_rfl, by kernel_rfl, ⟨5, by kernel_rfl⟩, by kernel_rfl⟩
theorem ty23 : TyOk1 Try.prog 23 ((.sl (.pair (.sl (.pair (.int .i64) (.int .i64))) (.int .i64)))) := ⟨by kernel_rfl, by kernel_rfl, by kernel_rfl, by kernel_rfl, by kernel_rfl, by kernel_rfl, ⟨73, by kernel_rfl⟩, by kernel_rfl⟩
theorem ty24 : TyOk1 Try.prog 24 ((.sl .bool)) := ⟨by kernel_rfl, by kernel_rfl, by kernel_rfl, by kernel_rfl, by kernel_rfl, by kernel_rfl, ⟨4, by kernel_rfl⟩, by kernel_rfl⟩
theorem ty33 : TyOk1 Try.prog 33 ((.sl (.int .i64))) := ⟨by kernel_rfl, by kernel_rfl, by kernel_rfl, by kernel_rfl, by kernel_rfl, by kernel_rfl, ⟨3, by kernel_rfl⟩, by kernel_rfl⟩
theorem ty71 : TyOk1 Try.prog 71 ((.sl (.pair (.int .i64) (.int .i64)))) := ⟨by kernel_rfl, by kernel_rfl, by kernel_rfl, by kernel_rfl, by kernel_rfl, by kernel_rfl, ⟨109, by kernel_rfl⟩, by kernel_rfl⟩
theorem ty73 : TyOk1 Try.prog 73 ((.pair (.sl (.pair (.int .i64) (.int .i64))) (.int .i64))) := ⟨by kernel_rfl, by kernel_rfl, by kernel_rfl, by kernel_rfl, by kernel_rfl, by kernel_rfl, ⟨fieldsOf Try.prog 73, by kernel_rfl⟩, by kernel_rfl⟩
theorem ty109 : TyOk1 Try.prog 109 ((.pair (.int .i64) (.int .i64))) := ⟨by kernel_rfl, by kernel_rfl, by kernel_rfl, by kernel_rfl, by kernel_rfl, by kernel_rfl, ⟨fieldsOf Try.prog 109, by kernel_rfl⟩, by kernel_rfl⟩
theorem ty119 : TyOk1 Try.prog 119 ((.pair (.sl (.int .u8)) (.int .i64))) := ⟨by kernel_rfl, by kernel_rfl, by kernel_rfl, by kernel_rfl, by kernel_rfl, by kernel_rfl, ⟨fieldsOf Try.prog 119, by kernel_rfl⟩, by kernel_rfl⟩
theorem fl73 : FlOk1 Try.prog 73 [(0, 71), (1, 3)] := ⟨by kernel_rfl, by kernel_rfl, by
  simp only [List.forall_mem_cons]
  exact ⟨⟨by kernel_rfl, by kernel_rfl⟩, ⟨by kernel_rfl, by kernel_rfl⟩, fun p h => by cases h⟩⟩
theorem fl109 : FlOk1 Try.prog 109 [(0, 3), (1, 3)] := ⟨by kernel_rfl, by kernel_rfl, by
  simp only [List.forall_mem_cons]
  exact ⟨⟨by kernel_rfl, by kernel_rfl⟩, ⟨by kernel_rfl, by kernel_rfl⟩, fun p h => by cases h⟩⟩
theorem fl119 : FlOk1 Try.prog 119 [(0, 22), (1, 3)] := ⟨by kernel_rfl, by kernel_rfl, by
  simp only [List.forall_mem_cons]
  exact ⟨⟨by kernel_rfl, by kernel_rfl⟩, ⟨by kernel_rfl, by kernel_rfl⟩, fun p h => by cases h⟩⟩
theorem eqs_ok (t : TypeId) (h : tys.eq.any (Nat.beq t) = true) : Eq1 Try.prog t := by
  cases h

theorem tys_ok : TysOk Try.prog tys := by
  refine tysOk_of ?_ ?_ eqs_ok ?_ ?_
  · simp only [tys, List.forall_mem_cons]
    exact ⟨ty3, ty4, ty5, ty22, ty23, ty24, ty33, ty71, ty73, ty109, ty119, fun p h => by cases h⟩
  · simp only [tys, List.forall_mem_cons]
    exact ⟨⟨by kernel_rfl, by kernel_rfl⟩, ⟨by kernel_rfl, by kernel_rfl⟩, ⟨by kernel_rfl, by kernel_rfl⟩, ⟨by kernel_rfl, by kernel_rfl⟩, ⟨by kernel_rfl, by kernel_rfl⟩, ⟨by kernel_rfl, by kernel_rfl⟩, ⟨by kernel_rfl, by kernel_rfl⟩, ⟨by kernel_rfl, by kernel_rfl⟩, ⟨by kernel_rfl, by kernel_rfl⟩, ⟨by kernel_rfl, by kernel_rfl⟩, ⟨by kernel_rfl, by kernel_rfl⟩, fun p h => by cases h⟩
  · simp only [tys, List.forall_mem_cons]
    exact ⟨by kernel_rfl, by kernel_rfl, by kernel_rfl, by kernel_rfl, by kernel_rfl, fun p h => by cases h⟩
  · simp only [tys, List.forall_mem_cons]
    exact ⟨fl73, fl109, fl119, fun p h => by cases h⟩

theorem mixed : Try.prog.follows .mixedOrders = true := by kernel_rfl

end Go.AE.Y
