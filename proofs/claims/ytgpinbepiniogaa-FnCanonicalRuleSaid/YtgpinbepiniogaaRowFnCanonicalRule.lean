/-
  FnCanonicalRule returns true for every input, and its arguments read behind the call as they did before. No conditions.
-/
import Derived.Test.YtgpinbepiniogaaR9W4
import Derived.Test.YtgpinbepiniogaaPx1
import Derived.Test.YtgpinbepiniogaaAEx3
import Derived.Test.YtgpinbepiniogaaR9H
import Derived.Test.YtgpinbepiniogaaRows
import Derived.WalkKit
import Derived.ProofKit
import Derived.OpenShut
namespace Go.Proofs.Ytgpinbepiniogaa
open Go.ChangeShapes Go.WideShapes Go.ChangeAt Go.RowKit Go.AE Go.AE.Y

theorem joined3 : joinedFacts Try.checked.prog 3 Try.f3 Rows.fnCanonicalRuleSpec Rows.fnCanonicalRuleRow = true := by
  rw [checked_is]
  unfold joinedFacts
  rw [words1, words2, words3]
  kernel_rfl

theorem fits22 : Fits Try.prog (.sl (.int .u8)) 22 := ⟨5, Try.underlying22, by kernel_rfl, Try.underlying5, rfl⟩

theorem con3 (l : List (Sigma Ty.den)) (h : l.map (·.1) = [(.sl (.int .u8))]) (hk : ∀ p ∈ l, Go.AE.okD p.1 p.2) : effK (c_laws_FnCanonicalRule (l.map avS) []) (fun av _ => av = .c (.bool true)) := by
  match l, h with
  | [⟨t0, d0⟩], h =>
    simp only [List.map_cons, List.map_nil, List.cons.injEq, and_true] at h
    obtain rfl := h
    have hk0 := hk ⟨_, d0⟩ (by simp)
    exact ⟨true, law_FnCanonicalRule (fun x hx => hk0.2 x hx), rfl⟩

set_option maxRecDepth 100000 in
theorem lifted3 (os : Os) (started : os.Started) (H : Type) (enc : TypeId × Value → H) :
    ReturnsInHanded {} Try.checked os 3 .any (Rows.fnCanonicalRuleSpec.pre6 enc Try.prog Try.f3 Rows.fnCanonicalRuleRow.domain false) (Rows.fnCanonicalRuleSpec.post enc Try.prog Try.f3 false true false false) := by
  refine returnsInHanded_of_change (C := Try.checked) own started (by kernel_rfl) Try.func3
    (ChangeSpec.witness6 (enc := enc) (C := Try.checked) false ⟨#[], #[.slice none 0 0], []⟩ 8 (by kernel_rfl) (by kernel_rfl) (by kernel_rfl) (by kernel_rfl)) ?_
  intro W base args ds gs before hval0 hW hcnd _
  have hval : ∀ (j : Nat) t v, Try.f3.params[j]? = some t → args[j]? = some v → Value.okWide Try.prog W .any base t v := hval0
  have hW' := hW
  obtain ⟨p, q, hA0, hV, e, hfz, hnd⟩ := hW
  have hA : DataW.TrodAll enc Try.prog W 0 (fun _ => true) true Try.f3.params.toList args.toList ds p := hA0
  refine (row_calls (ids := Try.f3.params.toList) k_laws_FnCanonicalRule con3 (by rw [Try.params3]; exact ⟨fits22, trivial⟩) (fun j t v a b => hval j t v (by simpa using a) b) hA (fun b hb => by rw [show Try.prog.globalNamed "internal/strconv.uint64pow10" = none by kernel_rfl] at hb; cases hb)).mono ?_
  rintro e W' ⟨rfl, hb⟩
  refine ⟨_, rfl, row_post (tb := 4) laid (by kernel_rfl) rfl (by kernel_rfl) Try.underlying4 (fun ds hd => ?_) hW' hb⟩
  have hd : ds.length = 1 := hd
  match ds, hd with
  | [d0], _ => rfl

theorem holds3 : Rows.FnCanonicalRuleSaid :=
  OpenClaim.holds_of_wide 3 Try.f3 rfl rfl rfl rfl rfl rfl rfl ⟨rfl, rfl, rfl, rfl, rfl⟩ rfl rfl rfl rfl rfl (by kernel_rfl) Try.func3 joined3
    (of_decide_eq_true (by kernel_rfl)) (by unfold Func.isWrapper; first | (rw [if_pos (by decide +kernel)]; kernel_rfl) | (rw [if_neg (by decide +kernel)]; exact ⟨rfl, rfl⟩))
    (fun os started H enc _ => lifted3 os started H enc)
#print axioms holds3
end Go.Proofs.Ytgpinbepiniogaa
