/-
  FnExactCubeHolds returns true for every input, and its arguments read behind the call as they did before. No conditions.
-/
import Derived.Test.YtkipgkpekkjebaaY1E
import Derived.Test.YtkipgkpekkjebaaAERow
import Derived.Test.YtkipgkpekkjebaaRows
import Derived.WalkKit
import Derived.ProofKit
import Derived.OpenShut
namespace Go.Proofs.Ytkipgkpekkjebaa
open Go.ChangeShapes Go.WideShapes Go.ChangeAt Go.RowKit Go.AE Go.AE.Y1

theorem own : ownKnob Try.prog.godebug = none := by kernel_rfl
theorem laid : laidOutB Try.prog = true := by kernel_rfl

theorem fits22 : Fits Try.prog ints 22 := ⟨3, Try.underlying22, by kernel_rfl, Try.underlying3, rfl⟩
theorem fits23 : Fits Try.prog bools 23 := ⟨4, Try.underlying23, by kernel_rfl, Try.underlying4⟩

theorem con3 (l : List (Sigma Ty.den)) (h : l.map (·.1) = [ints, bools]) : cTrueIB (l.map avS) [] = .ret (.c (.bool true)) [] := by
  match l, h with
  | [⟨t1, d1⟩, ⟨t2, d2⟩], h =>
    simp only [List.map_cons, List.map_nil, List.cons.injEq, and_true] at h
    obtain ⟨rfl, rfl⟩ := h
    rfl

set_option maxRecDepth 100000 in
theorem lifted3 (os : Os) (started : os.Started) (H : Type) (enc : TypeId × Value → H) :
    ReturnsInHanded {} Try.checked os 3 .any (Rows.fnExactCubeHoldsSpec.pre6 enc Try.prog Try.f3 Rows.fnExactCubeHoldsRow.domain false) (Rows.fnExactCubeHoldsSpec.post enc Try.prog Try.f3 false true false false) := by
  refine returnsInHanded_of_change (C := Try.checked) own started (by kernel_rfl) Try.func3
    (ChangeSpec.witness6 (enc := enc) (C := Try.checked) false ⟨#[], #[.slice none 0 0, .slice none 0 0], []⟩ 8 (by kernel_rfl) (by kernel_rfl) (by kernel_rfl) (by kernel_rfl)) ?_
  intro W base args ds gs before hval0 hW hcnd _
  have hval : ∀ (j : Nat) t v, Try.f3.params[j]? = some t → args[j]? = some v → Value.okWide Try.prog W .any base t v := hval0
  have hW' := hW
  obtain ⟨p, q, hA0, hV, e, hfz, hnd⟩ := hW
  have hA : DataW.TrodAll enc Try.prog W 0 (fun _ => true) true Try.f3.params.toList args.toList ds p := hA0
  refine (row_calls (ids := Try.f3.params.toList) k3 con3 (by rw [Try.params3]; exact ⟨fits22, fits23, trivial⟩) (fun j t v a b => hval j t v (by simpa using a) b) hA).mono ?_
  rintro e W' ⟨rfl, hb⟩
  refine ⟨_, rfl, row_post (tb := 4) laid (by kernel_rfl) rfl (by kernel_rfl) Try.underlying4 (fun ds hd => ?_) hW' hb⟩
  have hd : ds.length = 2 := hd
  match ds, hd with
  | [d1, d2], _ => rfl

theorem holds3 : Rows.FnExactCubeHoldsSaid :=
  OpenClaim.holds_of_wide 3 Try.f3 rfl rfl rfl rfl rfl rfl rfl ⟨rfl, rfl, rfl, rfl, rfl⟩ rfl rfl rfl rfl rfl (by kernel_rfl) Try.func3 (by kernel_rfl)
    (of_decide_eq_true (by kernel_rfl)) (by unfold Func.isWrapper; first | (rw [if_pos (by decide +kernel)]; kernel_rfl) | (rw [if_neg (by decide +kernel)]; exact ⟨rfl, rfl⟩))
    (fun os started H enc _ => lifted3 os started H enc)
#print axioms holds3
end Go.Proofs.Ytkipgkpekkjebaa
