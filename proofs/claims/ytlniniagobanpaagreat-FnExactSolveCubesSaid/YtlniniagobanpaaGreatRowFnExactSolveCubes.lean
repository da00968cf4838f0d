/-
  FnExactSolveCubes returns true for every input, and its arguments read behind the call as they did before. No conditions.
-/
import Derived.Test.YtlniniagobanpaaGreatR6ZW5
import Derived.Test.YtlniniagobanpaaGreatPx2
import Derived.Test.YtlniniagobanpaaGreatAEx3
import Derived.Test.YtlniniagobanpaaGreatR6ZH
import Derived.Test.YtlniniagobanpaaGreatRows
import Derived.WalkKit
import Derived.ProofKit
import Derived.OpenShut
namespace Go.Proofs.YtlniniagobanpaaGreat
open Go.ChangeShapes Go.WideShapes Go.ChangeAt Go.RowKit Go.AE Go.AE.Y

theorem joined3 : joinedFacts Tryz.checked.prog 3 Tryz.f3 Rows.fnExactSolveCubesSpec Rows.fnExactSolveCubesRow = true := by
  rw [checked_is]
  unfold joinedFacts
  rw [words1, words2, words3]
  kernel_rfl

theorem fits3 : Fits Tryz.prog (.int .i64) 3 := ⟨Tryz.underlying3, rfl⟩
theorem fits22 : Fits Tryz.prog (.sl (.pair (.sl (.pair (.int .i64) (.int .i64))) (.int .i64))) 22 := ⟨44, Tryz.underlying22, by kernel_rfl, _, Tryz.underlying44, by kernel_rfl, _, _, rfl, by kernel_rfl, by kernel_rfl, ⟨99, Tryz.underlying42, by kernel_rfl, _, Tryz.underlying99, by kernel_rfl, _, _, rfl, by kernel_rfl, by kernel_rfl, ⟨Tryz.underlying3, rfl⟩, ⟨_, rfl, by kernel_rfl, by kernel_rfl, Tryz.underlying3, rfl⟩⟩, ⟨_, rfl, by kernel_rfl, by kernel_rfl, Tryz.underlying3, rfl⟩⟩
theorem fits23 : Fits Tryz.prog (.sl (.int .i64)) 23 := ⟨3, Tryz.underlying23, by kernel_rfl, Tryz.underlying3, rfl⟩

theorem con3 (l : List (Sigma Ty.den)) (h : l.map (·.1) = [(.sl (.pair (.sl (.pair (.int .i64) (.int .i64))) (.int .i64))), (.sl (.int .i64)), (.int .i64)]) (hk : ∀ p ∈ l, Go.AE.okD p.1 p.2) : effK (c_laws_FnExactSolveCubes (l.map avS) []) (fun av _ => av = .c (.bool true)) := by
  match l, h with
  | [⟨t0, d0⟩, ⟨t1, d1⟩, ⟨t2, d2⟩], h =>
    simp only [List.map_cons, List.map_nil, List.cons.injEq, and_true] at h
    obtain ⟨rfl, rfl, rfl⟩ := h
    have hk0 := hk ⟨_, d0⟩ (by simp)
    have hk1 := hk ⟨_, d1⟩ (by simp)
    have hk2 := hk ⟨_, d2⟩ (by simp)
    exact ⟨true, law_FnExactSolveCubes d0 d1 d2 hk0, rfl⟩

set_option maxRecDepth 100000 in
theorem lifted3 (os : Os) (started : os.Started) (H : Type) (enc : TypeId × Value → H) :
    ReturnsInHanded {} Tryz.checked os 3 .any (Rows.fnExactSolveCubesSpec.pre6 enc Tryz.prog Tryz.f3 Rows.fnExactSolveCubesRow.domain false) (Rows.fnExactSolveCubesSpec.post enc Tryz.prog Tryz.f3 false true false false) := by
  refine returnsInHanded_of_change (C := Tryz.checked) own started (by kernel_rfl) Tryz.func3
    (ChangeSpec.witness6 (enc := enc) (C := Tryz.checked) false ⟨#[], #[.slice none 0 0, .slice none 0 0, .int .i64 0], []⟩ 8 (by kernel_rfl) (by kernel_rfl) (by kernel_rfl) (by kernel_rfl)) ?_
  intro W base args ds gs before hval0 hW hcnd _
  have hval : ∀ (j : Nat) t v, Tryz.f3.params[j]? = some t → args[j]? = some v → Value.okWide Tryz.prog W .any base t v := hval0
  have hW' := hW
  obtain ⟨p, q, hA0, hV, e, hfz, hnd⟩ := hW
  have hA : DataW.TrodAll enc Tryz.prog W 0 (fun _ => true) true Tryz.f3.params.toList args.toList ds p := hA0
  refine (row_calls (ids := Tryz.f3.params.toList) k_laws_FnExactSolveCubes con3 (by rw [Tryz.params3]; exact ⟨fits22, fits23, fits3, trivial⟩) (fun j t v a b => hval j t v (by simpa using a) b) hA).mono ?_
  rintro e W' ⟨rfl, hb⟩
  refine ⟨_, rfl, row_post (tb := 4) laid (by kernel_rfl) rfl (by kernel_rfl) Tryz.underlying4 (fun ds hd => ?_) hW' hb⟩
  have hd : ds.length = 3 := hd
  match ds, hd with
  | [d0, d1, d2], _ => rfl

theorem holds3 : Rows.FnExactSolveCubesSaid :=
  OpenClaim.holds_of_wide 3 Tryz.f3 rfl rfl rfl rfl rfl rfl rfl ⟨rfl, rfl, rfl, rfl, rfl⟩ rfl rfl rfl rfl rfl (by kernel_rfl) Tryz.func3 joined3
    (of_decide_eq_true (by kernel_rfl)) (by unfold Func.isWrapper; first | (rw [if_pos (by decide +kernel)]; kernel_rfl) | (rw [if_neg (by decide +kernel)]; exact ⟨rfl, rfl⟩))
    (fun os started H enc _ => lifted3 os started H enc)
#print axioms holds3
end Go.Proofs.YtlniniagobanpaaGreat
