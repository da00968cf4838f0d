/-
  The seat's table of types, checked against the program. No conditions.
-/
import Derived.Test.YtmpjmcflooeigaaAEModel
import Derived.Test.YtmpjmcflooeigaaProg
namespace Go.AE.Y
open Go Go.AE Go.Proofs

def tys : Tys := {
  eq := []
  ty := [(3, (.int .i64)), (4, .bool), (23, (.sl (.pair (.sl (.pair (.int .i64) (.int .i64))) (.int .i64)))), (24, (.sl .bool)), (40, (.sl (.pair (.sl (.pair (.int .i64) (.int .i64))) (.int .i64)))), (71, (.sl (.pair (.int .i64) (.int .i64)))), (73, (.pair (.sl (.pair (.int .i64) (.int .i64))) (.int .i64))), (91, (.sl (.pair (.int .i64) (.int .i64)))), (93, (.pair (.sl (.pair (.int .i64) (.int .i64))) (.int .i64))), (109, (.pair (.int .i64) (.int .i64))), (150, (.pair (.int .i64) (.int .i64)))]
  ag := [(3, false), (4, false), (23, false), (24, false), (40, false), (71, false), (73, true), (91, false), (93, true), (109, true), (150, true)]
  el := [(23, 73), (24, 4), (40, 93), (71, 109), (91, 150)]
  fl := [(73, [(0, 71), (1, 3)]), (93, [(0, 91), (1, 3)]), (109, [(0, 3), (1, 3)]), (150, [(0, 3), (1, 3)])] }

theorem ty3 : TyOk1 Try.prog 3 ((.int .i64)) := ⟨by kernel_rfl, by kernel_rfl, by kernel_rfl, by kernel_rfl, by kernel_rfl, by kernel_rfl, (by show descOf Try.prog 3 = _; kernel_rfl), by kernel_rfl⟩
theorem ty4 : TyOk1 Try.prog 4 (.bool) := ⟨by kernel_rfl, by kernel_rfl, by kernel_rfl, by kernel_rfl, by kernel_rfl, by kernel_rfl, (by show descOf Try.prog 4 = _; kernel_rfl), by kernel_rfl⟩
theorem ty23 : TyOk1 Try.prog 23 ((.sl (.pair (.sl (.pair (.int .i64) (.int .i64))) (.int .i64)))) := ⟨by kernel_rfl, by kernel_rfl, by kernel_rfl, by kernel_rfl, by kernel_rfl, by kernel_rfl, ⟨73, by kernel_rfl⟩, by kernel_rfl⟩
theorem ty24 : TyOk1 Try.prog 24 ((.sl .bool)) := ⟨by kernel_rfl, by kernel_rfl, by kernel_rfl, by kernel_rfl, by kernel_rfl, by kernel_rfl, ⟨4, by kernel_rfl⟩, by kernel_rfl⟩
theorem ty40 : TyOk1 Try.prog 40 ((.sl (.pair (.sl (.pair (.int .i64) (.int .i64))) (.int .i64)))) := ⟨by kernel_rfl, by kernel_rfl, by kernel_rfl, by kernel_rfl, by kernel_rfl, by kernel_rfl, ⟨93, by kernel_rfl⟩, by kernel_rfl⟩
theorem ty71 : TyOk1 Try.prog 71 ((.sl (.pair (.int .i64) (.int .i64)))) := ⟨by kernel_rfl, by kernel_rfl, by kernel_rfl, by kernel_rfl, by kernel_rfl, by kernel_rfl, ⟨109, by kernel_rfl⟩, by kernel_rfl⟩
theorem ty73 : TyOk1 Try.prog 73 ((.pair (.sl (.pair (.int .i64) (.int .i64))) (.int .i64))) := ⟨by kernel_rfl, by kernel_rfl, by kernel_rfl, by kernel_rfl, by kernel_rfl, by kernel_rfl, ⟨fieldsOf Try.prog 73, by kernel_rfl⟩, by kernel_rfl⟩
theorem ty91 : TyOk1 Try.prog 91 ((.sl (.pair (.int .i64) (.int .i64)))) := ⟨by kernel_rfl, by kernel_rfl, by kernel_rfl, by kernel_rfl, by kernel_rfl, by kernel_rfl, ⟨150, by kernel_rfl⟩, by kernel_rfl⟩
theorem ty93 : TyOk1 Try.prog 93 ((.pair (.sl (.pair (.int .i64) (.int .i64))) (.int .i64))) := ⟨by kernel_rfl, by kernel_rfl, by kernel_rfl, by kernel_rfl, by kernel_rfl, by kernel_rfl, ⟨fieldsOf Try.prog 93, by kernel_rfl⟩, by kernel_rfl⟩
theorem ty109 : TyOk1 Try.prog 109 ((.pair (.int .i64) (.int .i64))) := ⟨by kernel_rfl, by kernel_rfl, by kernel_rfl, by kernel_rfl, by kernel_rfl, by kernel_rfl, ⟨fieldsOf Try.prog 109, by kernel_rfl⟩, by kernel_rfl⟩
theorem ty150 : TyOk1 Try.prog 150 ((.pair (.int .i64) (.int .i64))) := ⟨by kernel_rfl, by kernel_rfl, by kernel_rfl, by kernel_rfl, by kernel_rfl, by kernel_rfl, ⟨fieldsOf Try.prog 150, by kernel_rfl⟩, by kernel_rfl⟩
theorem fl73 : FlOk1 Try.prog 73 [(0, 71), (1, 3)] := ⟨by kernel_rfl, by kernel_rfl, by
  simp only [List.forall_mem_cons]
  exact ⟨⟨by kernel_rfl, by kernel_rfl⟩, ⟨by kernel_rfl, by kernel_rfl⟩, fun p h => by cases h⟩⟩
theorem fl93 : FlOk1 Try.prog 93 [(0, 91), (1, 3)] := ⟨by kernel_rfl, by kernel_rfl, by
  simp only [List.forall_mem_cons]
  exact ⟨⟨by kernel_rfl, by kernel_rfl⟩, ⟨by kernel_rfl, by kernel_rfl⟩, fun p h => by cases h⟩⟩
theorem fl109 : FlOk1 Try.prog 109 [(0, 3), (1, 3)] := ⟨by kernel_rfl, by kernel_rfl, by
  simp only [List.forall_mem_cons]
  exact ⟨⟨by kernel_rfl, by kernel_rfl⟩, ⟨by kernel_rfl, by kernel_rfl⟩, fun p h => by cases h⟩⟩
theorem fl150 : FlOk1 Try.prog 150 [(0, 3), (1, 3)] := ⟨by kernel_rfl, by kernel_rfl, by
  simp only [List.forall_mem_cons]
  exact ⟨⟨by kernel_rfl, by kernel_rfl⟩, ⟨by kernel_rfl, by kernel_rfl⟩, fun p h => by cases h⟩⟩
theorem eqs_ok (t : TypeId) (h : tys.eq.any (Nat.beq t) = true) : Eq1 Try.prog t := by
  cases h

theorem tys_ok : TysOk Try.prog tys := by
  refine tysOk_of ?_ ?_ eqs_ok ?_ ?_
  · simp only [tys, List.forall_mem_cons]
    exact ⟨ty3, ty4, ty23, ty24, ty40, ty71, ty73, ty91, ty93, ty109, ty150, fun p h => by cases h⟩
  · simp only [tys, List.forall_mem_cons]
    exact ⟨⟨by kernel_rfl, by kernel_rfl⟩, ⟨by kernel_rfl, by kernel_rfl⟩, ⟨by kernel_rfl, by kernel_rfl⟩, ⟨by kernel_rfl, by kernel_rfl⟩, ⟨by kernel_rfl, by kernel_rfl⟩, ⟨by kernel_rfl, by kernel_rfl⟩, ⟨by kernel_rfl, by kernel_rfl⟩, ⟨by kernel_rfl, by kernel_rfl⟩, ⟨by kernel_rfl, by kernel_rfl⟩, ⟨by kernel_rfl, by kernel_rfl⟩, ⟨by kernel_rfl, by kernel_rfl⟩, fun p h => by cases h⟩
  · simp only [tys, List.forall_mem_cons]
    exact ⟨by kernel_rfl, by kernel_rfl, by kernel_rfl, by kernel_rfl, by kernel_rfl, fun p h => by cases h⟩
  · simp only [tys, List.forall_mem_cons]
    exact ⟨fl73, fl93, fl109, fl150, fun p h => by cases h⟩

theorem mixed : Try.prog.follows .mixedOrders = true := by kernel_rfl

end Go.AE.Y
