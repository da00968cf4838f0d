/-
  FnExactMatchRule returns true for every input, and its arguments read behind the call as they did before. No conditions.
-/
import Derived.Test.YtpjbfmifmikloaaR3W4
import Derived.Test.YtpjbfmifmikloaaPx1
import Derived.Test.YtpjbfmifmikloaaAEx3
import Derived.Test.YtpjbfmifmikloaaR3H
import Derived.Test.YtpjbfmifmikloaaRows
import Derived.WalkKit
import Derived.ProofKit
import Derived.OpenShut
namespace Go.Proofs.Ytpjbfmifmikloaa
open Go.ChangeShapes Go.WideShapes Go.ChangeAt Go.RowKit Go.AE Go.AE.Y

theorem joined11 : joinedFacts Try.checked.prog 11 Try.f11 Rows.fnExactMatchRuleSpec Rows.fnExactMatchRuleRow = true := by
  rw [checked_is]
  unfold joinedFacts
  rw [words1, words2, words3]
  kernel_rfl

theorem fits3 : Fits Try.prog (.int .i64) 3 := ⟨Try.underlying3, rfl⟩
theorem fits25 : Fits Try.prog (.pair (.sl (.int .i64)) (.sl (.pair (.int .i64) (.pair (.sl (.int .i64)) (.pair (.sl (.int .i64)) (.pair (.int .i64) (.sl (.sl (.int .i64))))))))) 25 := ⟨_, Try.underlying25, by kernel_rfl, _, _, rfl, by kernel_rfl, by kernel_rfl, ⟨3, Try.underlying22, by kernel_rfl, Try.underlying3, rfl⟩, ⟨_, rfl, by kernel_rfl, by kernel_rfl, 124, Try.underlying23, by kernel_rfl, _, Try.underlying124, by kernel_rfl, _, _, rfl, by kernel_rfl, by kernel_rfl, ⟨Try.underlying3, rfl⟩, .inl ⟨_, _, rfl, by kernel_rfl, by kernel_rfl, ⟨3, Try.underlying22, by kernel_rfl, Try.underlying3, rfl⟩, .inl ⟨_, _, rfl, by kernel_rfl, by kernel_rfl, ⟨3, Try.underlying22, by kernel_rfl, Try.underlying3, rfl⟩, .inl ⟨_, _, rfl, by kernel_rfl, by kernel_rfl, ⟨Try.underlying3, rfl⟩, ⟨_, rfl, by kernel_rfl, by kernel_rfl, 22, Try.underlying110, by kernel_rfl, 3, Try.underlying22, by kernel_rfl, Try.underlying3, rfl⟩⟩⟩⟩⟩⟩
theorem fits26 : Fits Try.prog (.sl (.sl .bool)) 26 := ⟨73, Try.underlying26, by kernel_rfl, 4, Try.underlying73, by kernel_rfl, Try.underlying4⟩

theorem con11 (l : List (Sigma Ty.den)) (h : l.map (·.1) = [(.pair (.sl (.int .i64)) (.sl (.pair (.int .i64) (.pair (.sl (.int .i64)) (.pair (.sl (.int .i64)) (.pair (.int .i64) (.sl (.sl (.int .i64))))))))), (.int .i64), (.sl (.sl .bool))]) (hk : ∀ p ∈ l, Go.AE.okD p.1 p.2) : effK (c_laws_FnExactMatchRule (l.map avS) []) (fun av _ => av = .c (.bool true)) := by
  match l, h with
  | [⟨t0, d0⟩, ⟨t1, d1⟩, ⟨t2, d2⟩], h =>
    simp only [List.map_cons, List.map_nil, List.cons.injEq, and_true] at h
    obtain ⟨rfl, rfl, rfl⟩ := h
    have hk0 := hk ⟨_, d0⟩ (by simp)
    have hk1 := hk ⟨_, d1⟩ (by simp)
    have hk2 := hk ⟨_, d2⟩ (by simp)
    exact ⟨true, law_FnExactMatchRule d0 d1 d2 hk0 hk2, rfl⟩

set_option maxRecDepth 100000 in
theorem lifted11 (os : Os) (started : os.Started) (H : Type) (enc : TypeId × Value → H) :
    ReturnsInHanded {} Try.checked os 11 .any (Rows.fnExactMatchRuleSpec.pre6 enc Try.prog Try.f11 Rows.fnExactMatchRuleRow.domain false) (Rows.fnExactMatchRuleSpec.post enc Try.prog Try.f11 false true false false) := by
  refine returnsInHanded_of_change (C := Try.checked) own started (by kernel_rfl) Try.func11
    (ChangeSpec.witness6 (enc := enc) (C := Try.checked) false ⟨#[], #[.agg #[.slice none 0 0, .slice none 0 0], .int .i64 0, .slice none 0 0], []⟩ 8 (by kernel_rfl) (by kernel_rfl) (by kernel_rfl) (by kernel_rfl)) ?_
  intro W base args ds gs before hval0 hW hcnd _
  have hval : ∀ (j : Nat) t v, Try.f11.params[j]? = some t → args[j]? = some v → Value.okWide Try.prog W .any base t v := hval0
  have hW' := hW
  obtain ⟨p, q, hA0, hV, e, hfz, hnd⟩ := hW
  have hA : DataW.TrodAll enc Try.prog W 0 (fun _ => true) true Try.f11.params.toList args.toList ds p := hA0
  refine (row_calls (ids := Try.f11.params.toList) k_laws_FnExactMatchRule con11 (by rw [Try.params11]; exact ⟨fits25, fits3, fits26, trivial⟩) (fun j t v a b => hval j t v (by simpa using a) b) hA).mono ?_
  rintro e W' ⟨rfl, hb⟩
  refine ⟨_, rfl, row_post (tb := 4) laid (by kernel_rfl) rfl (by kernel_rfl) Try.underlying4 (fun ds hd => ?_) hW' hb⟩
  have hd : ds.length = 3 := hd
  match ds, hd with
  | [d0, d1, d2], _ => rfl

theorem holds11 : Rows.FnExactMatchRuleSaid :=
  OpenClaim.holds_of_wide 11 Try.f11 rfl rfl rfl rfl rfl rfl rfl ⟨rfl, rfl, rfl, rfl, rfl⟩ rfl rfl rfl rfl rfl (by kernel_rfl) Try.func11 joined11
    (of_decide_eq_true (by kernel_rfl)) (by unfold Func.isWrapper; first | (rw [if_pos (by decide +kernel)]; kernel_rfl) | (rw [if_neg (by decide +kernel)]; exact ⟨rfl, rfl⟩))
    (fun os started H enc _ => lifted11 os started H enc)
#print axioms holds11
end Go.Proofs.Ytpjbfmifmikloaa
