/-
  FnDomainsPartial returns true for every input, and its arguments read behind the call as they did before. No conditions.
-/
import Derived.Test.YtpjbfmifmikloaaR3W3
import Derived.Test.YtpjbfmifmikloaaPx1
import Derived.Test.YtpjbfmifmikloaaAEx3
import Derived.Test.YtpjbfmifmikloaaR3H
import Derived.Test.YtpjbfmifmikloaaRows
import Derived.WalkKit
import Derived.ProofKit
import Derived.OpenShut
namespace Go.Proofs.Ytpjbfmifmikloaa
open Go.ChangeShapes Go.WideShapes Go.ChangeAt Go.RowKit Go.AE Go.AE.Y

theorem joined13 : joinedFacts Try.checked.prog 13 Try.f13 Rows.fnDomainsPartialSpec Rows.fnDomainsPartialRow = true := by
  rw [checked_is]
  unfold joinedFacts
  rw [words1, words2, words3]
  kernel_rfl

theorem fits38 : Fits Try.prog (.sl (.int .u8)) 38 := ⟨5, Try.underlying38, by kernel_rfl, Try.underlying5, rfl⟩

theorem con13 (l : List (Sigma Ty.den)) (h : l.map (·.1) = [(.sl (.int .u8))]) (hk : ∀ p ∈ l, Go.AE.okD p.1 p.2) : effK (c_laws_FnDomainsPartial (l.map avS) []) (fun av _ => av = .c (.bool true)) := by
  match l, h with
  | [⟨t0, d0⟩], h =>
    simp only [List.map_cons, List.map_nil, List.cons.injEq, and_true] at h
    obtain rfl := h
    have hk0 := hk ⟨_, d0⟩ (by simp)
    exact ⟨true, law_FnDomainsPartial (fun x hx => hk0.2 x hx), rfl⟩

set_option maxRecDepth 100000 in
theorem lifted13 (os : Os) (started : os.Started) (H : Type) (enc : TypeId × Value → H) :
    ReturnsInHanded {} Try.checked os 13 .any (Rows.fnDomainsPartialSpec.pre6 enc Try.prog Try.f13 Rows.fnDomainsPartialRow.domain false) (Rows.fnDomainsPartialSpec.post enc Try.prog Try.f13 false true false false) := by
  refine returnsInHanded_of_change (C := Try.checked) own started (by kernel_rfl) Try.func13
    (ChangeSpec.witness6 (enc := enc) (C := Try.checked) false ⟨#[], #[.slice none 0 0], []⟩ 8 (by kernel_rfl) (by kernel_rfl) (by kernel_rfl) (by kernel_rfl)) ?_
  intro W base args ds gs before hval0 hW hcnd _
  have hval : ∀ (j : Nat) t v, Try.f13.params[j]? = some t → args[j]? = some v → Value.okWide Try.prog W .any base t v := hval0
  have hW' := hW
  obtain ⟨p, q, hA0, hV, e, hfz, hnd⟩ := hW
  have hA : DataW.TrodAll enc Try.prog W 0 (fun _ => true) true Try.f13.params.toList args.toList ds p := hA0
  refine (row_calls (ids := Try.f13.params.toList) k_laws_FnDomainsPartial con13 (by rw [Try.params13]; exact ⟨fits38, trivial⟩) (fun j t v a b => hval j t v (by simpa using a) b) hA).mono ?_
  rintro e W' ⟨rfl, hb⟩
  refine ⟨_, rfl, row_post (tb := 4) laid (by kernel_rfl) rfl (by kernel_rfl) Try.underlying4 (fun ds hd => ?_) hW' hb⟩
  have hd : ds.length = 1 := hd
  match ds, hd with
  | [d0], _ => rfl

theorem holds13 : Rows.FnDomainsPartialSaid :=
  OpenClaim.holds_of_wide 13 Try.f13 rfl rfl rfl rfl rfl rfl rfl ⟨rfl, rfl, rfl, rfl, rfl⟩ rfl rfl rfl rfl rfl (by kernel_rfl) Try.func13 joined13
    (of_decide_eq_true (by kernel_rfl)) (by unfold Func.isWrapper; first | (rw [if_pos (by decide +kernel)]; kernel_rfl) | (rw [if_neg (by decide +kernel)]; exact ⟨rfl, rfl⟩))
    (fun os started H enc _ => lifted13 os started H enc)
#print axioms holds13
end Go.Proofs.Ytpjbfmifmikloaa
