/-
  FnExactUsedInputs returns true for every input, and its arguments read behind the call as they did before. No conditions.
-/
import Derived.Test.YtaeeiddjpigemaaGreatR7W6
import Derived.Test.YtaeeiddjpigemaaGreatPx2
import Derived.Test.YtaeeiddjpigemaaGreatAEx3
import Derived.Test.YtaeeiddjpigemaaGreatR7H
import Derived.Test.YtaeeiddjpigemaaGreatRows
import Derived.WalkKit
import Derived.ProofKit
import Derived.OpenShut
namespace Go.Proofs.YtaeeiddjpigemaaGreat
open Go.ChangeShapes Go.WideShapes Go.ChangeAt Go.RowKit Go.AE Go.AE.Y

theorem joined6 : joinedFacts Tryz.checked.prog 6 Tryz.f6 Rows.fnExactUsedInputsSpec Rows.fnExactUsedInputsRow = true := by
  rw [checked_is]
  unfold joinedFacts
  rw [words1, words2, words3]
  kernel_rfl

theorem fits43 : Fits Tryz.prog (.sl (.pair (.int .i64) (.pair (.int .i64) (.pair (.int .i64) (.pair (.sl (.pair (.int .i64) (.int .i64))) (.int .i64)))))) 43 := ⟨108, Tryz.underlying43, by kernel_rfl, _, Tryz.underlying108, by kernel_rfl, _, _, rfl, by kernel_rfl, by kernel_rfl, ⟨Tryz.underlying3, rfl⟩, .inl ⟨_, _, rfl, by kernel_rfl, by kernel_rfl, ⟨Tryz.underlying3, rfl⟩, .inl ⟨_, _, rfl, by kernel_rfl, by kernel_rfl, ⟨Tryz.underlying3, rfl⟩, .inr ⟨_, rfl, by kernel_rfl, by kernel_rfl, _, Tryz.underlying106, by kernel_rfl, _, _, rfl, by kernel_rfl, by kernel_rfl, ⟨218, Tryz.underlying104, by kernel_rfl, _, Tryz.underlying218, by kernel_rfl, _, _, rfl, by kernel_rfl, by kernel_rfl, ⟨Tryz.underlying3, rfl⟩, ⟨_, rfl, by kernel_rfl, by kernel_rfl, Tryz.underlying3, rfl⟩⟩, ⟨_, rfl, by kernel_rfl, by kernel_rfl, Tryz.underlying3, rfl⟩⟩⟩⟩⟩
theorem fits53 : Fits Tryz.prog (.sl (.pair (.sl (.pair (.int .i64) (.int .i64))) (.int .i64))) 53 := ⟨106, Tryz.underlying53, by kernel_rfl, _, Tryz.underlying106, by kernel_rfl, _, _, rfl, by kernel_rfl, by kernel_rfl, ⟨218, Tryz.underlying104, by kernel_rfl, _, Tryz.underlying218, by kernel_rfl, _, _, rfl, by kernel_rfl, by kernel_rfl, ⟨Tryz.underlying3, rfl⟩, ⟨_, rfl, by kernel_rfl, by kernel_rfl, Tryz.underlying3, rfl⟩⟩, ⟨_, rfl, by kernel_rfl, by kernel_rfl, Tryz.underlying3, rfl⟩⟩

theorem con6 (l : List (Sigma Ty.den)) (h : l.map (·.1) = [(.sl (.pair (.sl (.pair (.int .i64) (.int .i64))) (.int .i64))), (.sl (.pair (.int .i64) (.pair (.int .i64) (.pair (.int .i64) (.pair (.sl (.pair (.int .i64) (.int .i64))) (.int .i64))))))]) (hk : ∀ p ∈ l, Go.AE.okD p.1 p.2) : effK (c_laws_FnExactUsedInputs (l.map avS) []) (fun av _ => av = .c (.bool true)) := by
  match l, h with
  | [⟨t0, d0⟩, ⟨t1, d1⟩], h =>
    simp only [List.map_cons, List.map_nil, List.cons.injEq, and_true] at h
    obtain ⟨rfl, rfl⟩ := h
    have hk0 := hk ⟨_, d0⟩ (by simp)
    have hk1 := hk ⟨_, d1⟩ (by simp)
    exact ⟨true, law_FnExactUsedInputs d0 d1 hk0 hk1, rfl⟩

set_option maxRecDepth 100000 in
theorem lifted6 (os : Os) (started : os.Started) (H : Type) (enc : TypeId × Value → H) :
    ReturnsInHanded {} Tryz.checked os 6 .any (Rows.fnExactUsedInputsSpec.pre6 enc Tryz.prog Tryz.f6 Rows.fnExactUsedInputsRow.domain false) (Rows.fnExactUsedInputsSpec.post enc Tryz.prog Tryz.f6 false true false false) := by
  refine returnsInHanded_of_change (C := Tryz.checked) own started (by kernel_rfl) Tryz.func6
    (ChangeSpec.witness6 (enc := enc) (C := Tryz.checked) false ⟨#[], #[.slice none 0 0, .slice none 0 0], []⟩ 8 (by kernel_rfl) (by kernel_rfl) (by kernel_rfl) (by kernel_rfl)) ?_
  intro W base args ds gs before hval0 hW hcnd _
  have hval : ∀ (j : Nat) t v, Tryz.f6.params[j]? = some t → args[j]? = some v → Value.okWide Tryz.prog W .any base t v := hval0
  have hW' := hW
  obtain ⟨p, q, hA0, hV, e, hfz, hnd⟩ := hW
  have hA : DataW.TrodAll enc Tryz.prog W 0 (fun _ => true) true Tryz.f6.params.toList args.toList ds p := hA0
  refine (row_calls (ids := Tryz.f6.params.toList) k_laws_FnExactUsedInputs con6 (by rw [Tryz.params6]; exact ⟨fits53, fits43, trivial⟩) (fun j t v a b => hval j t v (by simpa using a) b) hA).mono ?_
  rintro e W' ⟨rfl, hb⟩
  refine ⟨_, rfl, row_post (tb := 4) laid (by kernel_rfl) rfl (by kernel_rfl) Tryz.underlying4 (fun ds hd => ?_) hW' hb⟩
  have hd : ds.length = 2 := hd
  match ds, hd with
  | [d0, d1], _ => rfl

theorem holds6 : Rows.FnExactUsedInputsSaid :=
  OpenClaim.holds_of_wide 6 Tryz.f6 rfl rfl rfl rfl rfl rfl rfl ⟨rfl, rfl, rfl, rfl, rfl⟩ rfl rfl rfl rfl rfl (by kernel_rfl) Tryz.func6 joined6
    (of_decide_eq_true (by kernel_rfl)) (by unfold Func.isWrapper; first | (rw [if_pos (by decide +kernel)]; kernel_rfl) | (rw [if_neg (by decide +kernel)]; exact ⟨rfl, rfl⟩))
    (fun os started H enc _ => lifted6 os started H enc)
#print axioms holds6
end Go.Proofs.YtaeeiddjpigemaaGreat
