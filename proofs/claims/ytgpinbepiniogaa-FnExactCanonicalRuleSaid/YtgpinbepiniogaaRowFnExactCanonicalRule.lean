/-
  FnExactCanonicalRule returns true for every input, and its arguments read behind the call as they did before. No conditions.
-/
import Derived.Test.YtgpinbepiniogaaRBW4
import Derived.Test.YtgpinbepiniogaaPx1
import Derived.Test.YtgpinbepiniogaaAEx3
import Derived.Test.YtgpinbepiniogaaRBH
import Derived.Test.YtgpinbepiniogaaRows
import Derived.WalkKit
import Derived.ProofKit
import Derived.OpenShut
namespace Go.Proofs.Ytgpinbepiniogaa
open Go.ChangeShapes Go.WideShapes Go.ChangeAt Go.RowKit Go.AE Go.AE.Y

theorem joined4 : joinedFacts Try.checked.prog 4 Try.f4 Rows.fnExactCanonicalRuleSpec Rows.fnExactCanonicalRuleRow = true := by
  rw [checked_is]
  unfold joinedFacts
  rw [words1, words2, words3]
  kernel_rfl

theorem fits3 : Fits Try.prog (.int .i64) 3 := ⟨Try.underlying3, rfl⟩
theorem fits39 : Fits Try.prog (.pair (.sl (.int .i64)) (.sl (.pair (.int .i64) (.pair (.sl (.int .i64)) (.pair (.sl (.int .i64)) (.pair (.int .i64) (.sl (.sl (.int .i64))))))))) 39 := ⟨_, Try.underlying39, by kernel_rfl, _, _, rfl, by kernel_rfl, by kernel_rfl, ⟨3, Try.underlying23, by kernel_rfl, Try.underlying3, rfl⟩, ⟨_, rfl, by kernel_rfl, by kernel_rfl, 86, Try.underlying37, by kernel_rfl, _, Try.underlying86, by kernel_rfl, _, _, rfl, by kernel_rfl, by kernel_rfl, ⟨Try.underlying3, rfl⟩, .inl ⟨_, _, rfl, by kernel_rfl, by kernel_rfl, ⟨3, Try.underlying23, by kernel_rfl, Try.underlying3, rfl⟩, .inl ⟨_, _, rfl, by kernel_rfl, by kernel_rfl, ⟨3, Try.underlying23, by kernel_rfl, Try.underlying3, rfl⟩, .inl ⟨_, _, rfl, by kernel_rfl, by kernel_rfl, ⟨Try.underlying3, rfl⟩, ⟨_, rfl, by kernel_rfl, by kernel_rfl, 23, Try.underlying29, by kernel_rfl, 3, Try.underlying23, by kernel_rfl, Try.underlying3, rfl⟩⟩⟩⟩⟩⟩

theorem con4 (l : List (Sigma Ty.den)) (h : l.map (·.1) = [(.pair (.sl (.int .i64)) (.sl (.pair (.int .i64) (.pair (.sl (.int .i64)) (.pair (.sl (.int .i64)) (.pair (.int .i64) (.sl (.sl (.int .i64))))))))), (.int .i64)]) (hk : ∀ p ∈ l, Go.AE.okD p.1 p.2) : effK (c_laws_FnExactCanonicalRule (l.map avS) []) (fun av _ => av = .c (.bool true)) := by
  match l, h with
  | [⟨t0, d0⟩, ⟨t1, d1⟩], h =>
    simp only [List.map_cons, List.map_nil, List.cons.injEq, and_true] at h
    obtain ⟨rfl, rfl⟩ := h
    have hk0 := hk ⟨_, d0⟩ (by simp)
    have hk1 := hk ⟨_, d1⟩ (by simp)
    exact ⟨true, law_FnExactCanonicalRule d0 d1 hk0, rfl⟩

set_option maxRecDepth 100000 in
theorem lifted4 (os : Os) (started : os.Started) (H : Type) (enc : TypeId × Value → H) :
    ReturnsInHanded {} Try.checked os 4 .any (Rows.fnExactCanonicalRuleSpec.pre6 enc Try.prog Try.f4 Rows.fnExactCanonicalRuleRow.domain false) (Rows.fnExactCanonicalRuleSpec.post enc Try.prog Try.f4 false true false false) := by
  refine returnsInHanded_of_change (C := Try.checked) own started (by kernel_rfl) Try.func4
    (ChangeSpec.witness6 (enc := enc) (C := Try.checked) false ⟨#[], #[.agg #[.slice none 0 0, .slice none 0 0], .int .i64 0], []⟩ 8 (by kernel_rfl) (by kernel_rfl) (by kernel_rfl) (by kernel_rfl)) ?_
  intro W base args ds gs before hval0 hW hcnd _
  have hval : ∀ (j : Nat) t v, Try.f4.params[j]? = some t → args[j]? = some v → Value.okWide Try.prog W .any base t v := hval0
  have hW' := hW
  obtain ⟨p, q, hA0, hV, e, hfz, hnd⟩ := hW
  have hA : DataW.TrodAll enc Try.prog W 0 (fun _ => true) true Try.f4.params.toList args.toList ds p := hA0
  refine (row_calls (ids := Try.f4.params.toList) k_laws_FnExactCanonicalRule con4 (by rw [Try.params4]; exact ⟨fits39, fits3, trivial⟩) (fun j t v a b => hval j t v (by simpa using a) b) hA (fun b hb => by rw [show Try.prog.globalNamed "internal/strconv.uint64pow10" = none by kernel_rfl] at hb; cases hb)).mono ?_
  rintro e W' ⟨rfl, hb⟩
  refine ⟨_, rfl, row_post (tb := 4) laid (by kernel_rfl) rfl (by kernel_rfl) Try.underlying4 (fun ds hd => ?_) hW' hb⟩
  have hd : ds.length = 2 := hd
  match ds, hd with
  | [d0, d1], _ => rfl

theorem holds4 : Rows.FnExactCanonicalRuleSaid :=
  OpenClaim.holds_of_wide 4 Try.f4 rfl rfl rfl rfl rfl rfl rfl ⟨rfl, rfl, rfl, rfl, rfl⟩ rfl rfl rfl rfl rfl (by kernel_rfl) Try.func4 joined4
    (of_decide_eq_true (by kernel_rfl)) (by unfold Func.isWrapper; first | (rw [if_pos (by decide +kernel)]; kernel_rfl) | (rw [if_neg (by decide +kernel)]; exact ⟨rfl, rfl⟩))
    (fun os started H enc _ => lifted4 os started H enc)
#print axioms holds4
end Go.Proofs.Ytgpinbepiniogaa
