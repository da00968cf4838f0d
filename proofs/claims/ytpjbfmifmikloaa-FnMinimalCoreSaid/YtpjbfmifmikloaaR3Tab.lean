/-
  The seat's table of types, checked against the program. No conditions.
-/
import Derived.Test.YtpjbfmifmikloaaAEModel
import Derived.Test.YtpjbfmifmikloaaProg
namespace Go.AE.Y
open Go Go.AE Go.Proofs

def tys : Tys := {
  eq := []
  ty := [(3, (.int .i64)), (4, .bool), (5, (.int .u8)), (22, (.sl (.int .i64))), (38, (.sl (.int .u8))), (39, (.sl (.pair (.sl (.pair (.int .i64) (.int .i64))) (.int .i64)))), (73, (.sl .bool)), (130, (.pair (.sl (.int .u8)) (.int .i64))), (132, (.sl (.pair (.int .i64) (.int .i64)))), (134, (.pair (.sl (.pair (.int .i64) (.int .i64))) (.int .i64))), (137, (.pair (.int .i64) (.int .i64)))]
  ag := [(3, false), (4, false), (5, false), (22, false), (38, false), (39, false), (73, false), (130, true), (132, false), (134, true), (137, true)]
  el := [(22, 3), (38, 5), (39, 134), (73, 4), (132, 137)]
  fl := [(130, [(0, 38), (1, 3)]), (134, [(0, 132), (1, 3)]), (137, [(0, 3), (1, 3)])] }

theorem ty3 : TyOk1 Try.prog 3 ((.int .i64)) := ⟨by kernel_rfl, by kernel_rfl, by kernel_rfl, by kernel_rfl, by kernel_rfl, by kernel_rfl, (by show descOf Try.prog 3 = _; kernel_rfl), by kernel_rfl⟩
theorem ty4 : TyOk1 Try.prog 4 (.bool) := ⟨by kernel_rfl, by kernel_rfl, by kernel_rfl, by kernel_rfl, by kernel_rfl, by kernel_rfl, (by show descOf Try.prog 4 = _; kernel_rfl), by kernel_rfl⟩
theorem ty5 : TyOk1 Try.prog 5 ((.int .u8)) := ⟨by kernel_rfl, by kernel_rfl, by kernel_rfl, by kernel_rfl, by kernel_rfl, by kernel_rfl, (by show descOf Try.prog 5 = _; kernel_rfl), by kernel_rfl⟩
theorem ty22 : TyOk1 Try.prog 22 ((.sl (.int .i64))) := ⟨by kernel_rfl, by kernel_rfl, by kernel_rfl, by kernel_rfl, by kernel_rfl, by kernel_rfl, ⟨3, by kernel_rfl⟩, by kernel_rfl⟩
theorem ty38 : TyOk1 Try.prog 38 ((.sl (.int .u8))) := ⟨by kernel_rfl, by kernel_rfl, by kernel_rfl, by kernel_rfl, by kernel_rfl, by kernel_rfl, ⟨5, by kernel_rfl⟩, by kernel_rfl⟩
theorem ty39 : TyOk1 Try.prog 39 ((.sl (.pair (.sl (.pair (.int .i64) (.int .i64))) (.int .i64)))) := ⟨by kernel_rfl, by kernel_rfl, by kernel_rfl, by kernel_rfl, by kernel_rfl, by kernel_rfl, ⟨134, by kernel_rfl⟩, by kernel_rfl⟩
theorem ty73 : TyOk1 Try.prog 73 ((.sl .bool)) := ⟨by kernel_rfl, by kernel_rfl, by kernel_rfl, by kernel_rfl, by kernel_rfl, by kernel_rfl, ⟨4, by kernel_rfl⟩, by kernel_rfl⟩
theorem ty130 : TyOk1 Try.prog 130 ((.pair (.sl (.int .u8)) (.int .i64))) := ⟨by kernel_rfl, by kernel_rfl, by kernel_rfl, by kernel_rfl, by kernel_rfl, by kernel_rfl, ⟨fieldsOf Try.prog 130, by kernel_rfl⟩, by kernel_rfl⟩
theorem ty132 : TyOk1 Try.prog 132 ((.sl (.pair (.int .i64) (.int .i64)))) := ⟨by kernel_rfl, by kernel_rfl, by kernel_rfl, by kernel_rfl, by kernel_rfl, by kernel_rfl, ⟨137, by kernel_rfl⟩, by kernel_rfl⟩
theorem ty134 : TyOk1 Try.prog 134 ((.pair (.sl (.pair (.int .i64) (.int .i64))) (.int .i64))) := ⟨by kernel_rfl, by kernel_rfl, by kernel_rfl, by kernel_rfl, by kernel_rfl, by kernel_rfl, ⟨fieldsOf Try.prog 134, by kernel_rfl⟩, by kernel_rfl⟩
theorem ty137 : TyOk1 Try.prog 137 ((.pair (.int .i64) (.int .i64))) := ⟨by kernel_rfl, by kernel_rfl, by kernel_rfl, by kernel_rfl, by kernel_rfl, by kernel_rfl, ⟨fieldsOf Try.prog 137, by kernel_rfl⟩, by kernel_rfl⟩
theorem fl130 : FlOk1 Try.prog 130 [(0, 38), (1, 3)] := ⟨by kernel_rfl, by kernel_rfl, by
  simp only [List.forall_mem_cons]
  exact ⟨⟨by kernel_rfl, by kernel_rfl⟩, ⟨by kernel_rfl, by kernel_rfl⟩, fun p h => by cases h⟩⟩
theorem fl134 : FlOk1 Try.prog 134 [(0, 132), (1, 3)] := ⟨by kernel_rfl, by kernel_rfl, by
  simp only [List.forall_mem_cons]
  exact ⟨⟨by kernel_rfl, by kernel_rfl⟩, ⟨by kernel_rfl, by kernel_rfl⟩, fun p h => by cases h⟩⟩
theorem fl137 : FlOk1 Try.prog 137 [(0, 3), (1, 3)] := ⟨by kernel_rfl, by kernel_rfl, by
  simp only [List.forall_mem_cons]
  exact ⟨⟨by kernel_rfl, by kernel_rfl⟩, ⟨by kernel_rfl, by kernel_rfl⟩, fun p h => by cases h⟩⟩
theorem eqs_ok (t : TypeId) (h : tys.eq.any (Nat.beq t) = true) : Eq1 Try.prog t := by
  cases h

theorem tys_ok : TysOk Try.prog tys := by
  refine tysOk_of ?_ ?_ eqs_ok ?_ ?_
  · simp only [tys, List.forall_mem_cons]
    exact ⟨ty3, ty4, ty5, ty22, ty38, ty39, ty73, ty130, ty132, ty134, ty137, fun p h => by cases h⟩
  · simp only [tys, List.forall_mem_cons]
    exact ⟨⟨by kernel_rfl, by kernel_rfl⟩, ⟨by kernel_rfl, by kernel_rfl⟩, ⟨by kernel_rfl, by kernel_rfl⟩, ⟨by kernel_rfl, by kernel_rfl⟩, ⟨by kernel_rfl, by kernel_rfl⟩, ⟨by kernel_rfl, by kernel_rfl⟩, ⟨by kernel_rfl, by kernel_rfl⟩, ⟨by kernel_rfl, by kernel_rfl⟩, ⟨by kernel_rfl, by kernel_rfl⟩, ⟨by kernel_rfl, by kernel_rfl⟩, ⟨by kernel_rfl, by kernel_rfl⟩, fun p h => by cases h⟩
  · simp only [tys, List.forall_mem_cons]
    exact ⟨by kernel_rfl, by kernel_rfl, by kernel_rfl, by kernel_rfl, by kernel_rfl, fun p h => by cases h⟩
  · simp only [tys, List.forall_mem_cons]
    exact ⟨fl130, fl134, fl137, fun p h => by cases h⟩

theorem mixed : Try.prog.follows .mixedOrders = true := by kernel_rfl

end Go.AE.Y
