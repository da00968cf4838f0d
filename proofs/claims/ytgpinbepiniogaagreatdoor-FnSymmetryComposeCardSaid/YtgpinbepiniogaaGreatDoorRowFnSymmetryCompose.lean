/-
  FnSymmetryCompose returns true for every input, and its arguments read behind the call as they did before. No conditions.
-/
import Derived.Test.YtgpinbepiniogaaGreatDoorRAW4
import Derived.Test.YtgpinbepiniogaaGreatDoorPx2
import Derived.Test.YtgpinbepiniogaaGreatDoorAEx3
import Derived.Test.YtgpinbepiniogaaGreatDoorRAH
import Derived.Test.YtgpinbepiniogaaGreatDoorRows
import Derived.Test.YtgpinbepiniogaaGreatDoorTie
import Derived.Test.YtgpinbepiniogaaGreatDoorCards
import Derived.Lib.LaidTab
import Derived.LaidLaws
import Derived.MakeChecks
import Derived.Stop.LaidErr
import Derived.SevenTiedAt
import Derived.WalkKit
import Derived.ProofKit
import Derived.OpenShut
namespace Go.Proofs.YtgpinbepiniogaaGreatDoor
open Go.ChangeShapes Go.WideShapes Go.ChangeAt Go.RowKit Go.AE Go.AE.Y

theorem joined4 : joinedFacts Tryz.checked.prog 4 Tryz.f4 Rows.fnSymmetryComposeSpec Rows.fnSymmetryComposeRow = true := by
  rw [checked_is]
  unfold joinedFacts
  rw [words1, words2, words3]
  kernel_rfl

theorem fits36 : Fits Tryz.prog (.sl (.int .u8)) 36 := ⟨5, Tryz.underlying36, by kernel_rfl, Tryz.underlying5, rfl⟩

theorem con4 (l : List (Sigma Ty.den)) (h : l.map (·.1) = [(.sl (.int .u8)), (.sl (.int .u8))]) (hk : ∀ p ∈ l, Go.AE.okD p.1 p.2) : effK (c_laws_FnSymmetryCompose (l.map avS) []) (fun av _ => av = .c (.bool true)) := by
  match l, h with
  | [⟨t0, d0⟩, ⟨t1, d1⟩], h =>
    simp only [List.map_cons, List.map_nil, List.cons.injEq, and_true] at h
    obtain ⟨rfl, rfl⟩ := h
    have hk0 := hk ⟨_, d0⟩ (by simp)
    have hk1 := hk ⟨_, d1⟩ (by simp)
    exact ⟨true, law_FnSymmetryCompose (fun x hx => hk0.2 x hx), rfl⟩

noncomputable def cellsIn : DataW Unit → Array Value
  | .agg l => (l.map fun | .lit (.int k n) => Value.int k n | _ => .bool false).toArray
  | _ => #[]
noncomputable def lay1 (d : DataW Unit) : Obj → Obj
  | .cells _ t z => .cells (cellsIn d) t z
  | o => o
noncomputable def laidWorld (os : Os) : World :=
  let w0 := World.holding Tryz.prog os ⟨#[], #[], []⟩
  { w0 with heap := (((w0.heap).modify 1 (lay1 Rows.laid_math_bits_deBruijn32tab)).modify 2 (lay1 Rows.laid_math_bits_deBruijn64tab)).modify 0 (lay1 Rows.laid_internal_strconv_uint64pow10) }
theorem laid_plain : (Rows.fnSymmetryComposeRow.laid.all fun x => x.2.handleName?.isNone) = true := by kernel_rfl
theorem laid_met (os : Os) (args : Array Value) : laidMetH Tryz.prog Rows.fnSymmetryComposeRow.laid ((laidWorld os).forCall (fun _ _ => 0) ⟨#[], args, []⟩).memory := by
  rw [MakeChecks.laidMetH_plain _ _ _ laid_plain]
  exact laidMet_of_run' 8 (by kernel_rfl) (by kernel_rfl)
theorem pow_named : Tryz.prog.globalNamed "internal/strconv.uint64pow10" = some 0 := by kernel_rfl
theorem pow_typed : (Tryz.prog.globals[0]?).map (·.type) = some 167 := by kernel_rfl
theorem pow_data : (Rows.laid_internal_strconv_uint64pow10 : DataW Unit) = Lib.tabData .u64 Lib.pow10Tab := by kernel_rfl
theorem pow_stands {W : World} (hL : laidMetH Tryz.prog Rows.fnSymmetryComposeRow.laid W) : GlobOk Tryz.prog W (fun _ => False) := by
  rw [MakeChecks.laidMetH_plain _ _ _ laid_plain] at hL
  have hL : laidMet Tryz.prog [("math/bits.deBruijn32tab", Rows.laid_math_bits_deBruijn32tab), ("math/bits.deBruijn64tab", Rows.laid_math_bits_deBruijn64tab), ("internal/strconv.uint64pow10", Rows.laid_internal_strconv_uint64pow10)] W := hL
  have h := laidMet.tail (laidMet.tail (hL))
  rw [pow_data] at h
  exact glob_of_tab (Lib.tabIs_of_head pow_named pow_typed Tryz.underlying167 Tryz.underlying134 (by kernel_rfl) (by kernel_rfl) h)

set_option maxRecDepth 100000 in
theorem lifted4 (os : Os) (started : os.Started) (H : Type) (enc : TypeId × Value → H) :
    ReturnsInHanded {} Tryz.checked os 4 .any (fun w args => (Rows.fnSymmetryComposeSpec.pre enc Tryz.prog Tryz.f4 Rows.fnSymmetryComposeRow.domain false w args ∧ laidMetH Tryz.prog Rows.fnSymmetryComposeRow.laid w) ∧ sizedMet enc Tryz.prog Tryz.f4 (OpenSpec.ofChange Rows.fnSymmetryComposeSpec) false w args) (Rows.fnSymmetryComposeSpec.post enc Tryz.prog Tryz.f4 false true false false) := by
  refine returnsInHanded_of_change_and (C := Tryz.checked) (X := fun w _ => laidMetH Tryz.prog Rows.fnSymmetryComposeRow.laid w) (fun _ _ _ hh h => h.of_heap hh) own started (by kernel_rfl) Tryz.func4
    (ChangeSpec.witness_at (enc := enc) (C := Tryz.checked) (os := os) (X := fun w _ => laidMetH Tryz.prog Rows.fnSymmetryComposeRow.laid w) false (laidWorld os) #[.slice none 0 0, .slice none 0 0] 8 rfl (by kernel_rfl) (by kernel_rfl) (by kernel_rfl) (by kernel_rfl) (by kernel_rfl) (laid_met os _)) ?_
  intro W base args ds gs before hval0 hW _ _ hL _
  have hval : ∀ (j : Nat) t v, Tryz.f4.params[j]? = some t → args[j]? = some v → Value.okWide Tryz.prog W .any base t v := hval0
  have hW' := hW
  obtain ⟨p, q, hA0, hV, e, hfz, hnd⟩ := hW
  have hA : DataW.TrodAll enc Tryz.prog W 0 (fun _ => true) true Tryz.f4.params.toList args.toList ds p := hA0
  refine (row_calls (ids := Tryz.f4.params.toList) k_laws_FnSymmetryCompose con4 (by rw [Tryz.params4]; exact ⟨fits36, fits36, trivial⟩) (fun j t v a b => hval j t v (by simpa using a) b) hA (pow_stands hL)).mono ?_
  rintro e W' ⟨rfl, hb⟩
  refine ⟨_, rfl, row_post (tb := 4) laid (by kernel_rfl) rfl (by kernel_rfl) Tryz.underlying4 (fun ds hd => ?_) hW' hb⟩
  have hd : ds.length = 2 := hd
  match ds, hd with
  | [d0, d1], _ => rfl

theorem row4 : Rows.FnSymmetryComposeSaid :=
  OpenClaim.holds_of_wide 4 Tryz.f4 rfl rfl rfl rfl rfl rfl rfl ⟨rfl, rfl, rfl, rfl, rfl⟩ rfl rfl rfl rfl rfl (by kernel_rfl) Tryz.func4 joined4
    (of_decide_eq_true (by kernel_rfl)) (by unfold Func.isWrapper; first | (rw [if_pos (by decide +kernel)]; kernel_rfl) | (rw [if_neg (by decide +kernel)]; exact ⟨rfl, rfl⟩))
    (fun os started H enc _ => lifted4 os started H enc)

theorem holds4 : Rows.FnSymmetryComposeCardSaid :=
  Claim7.holds_tied_plain_at .later [] [.data, .data, .data] true (true, "e20fee9c513028f472f9917ffbbcc561dc38397ae4cfe4f14821ddc57addbf72") false
    row4 (fun _ h => by cases h) (by kernel_rfl) (fun _ h => by cases h) fnSymmetryCompose_row_tie rfl ⟨rfl, rfl⟩ (by kernel_rfl) rfl
    (fun f fn hf hfn => by
      obtain rfl : f = 4 := Option.some.inj ((show Tryz.prog.funcNamed "loop.example/cuttingplanes/laws.FnSymmetryCompose" = some 4 by kernel_rfl).symm.trans hf) |>.symm
      obtain rfl : fn = Tryz.f4 := (Option.some.inj (Tryz.func4.symm.trans hfn)).symm
      refine ⟨by kernel_rfl, fun j t ht => ?_⟩
      have hm : t ∈ Tryz.f4.params := Array.mem_of_getElem? ht
      rw [Tryz.params4] at hm
      have hm : t = 36 ∨ t = 36 := by simpa using hm
      rcases hm with rfl | rfl
      · exact (show Tryz.prog.wantsStandIn 36 = false by kernel_rfl)
      · exact (show Tryz.prog.wantsStandIn 36 = false by kernel_rfl))
    (by kernel_rfl)
#print axioms holds4
end Go.Proofs.YtgpinbepiniogaaGreatDoor
