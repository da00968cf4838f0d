/-
  FnExactBreakSwaps returns true for every input, and its arguments read behind the call as they did before. No conditions.
-/
import Derived.Test.YtgpinbepiniogaaGreatDoorRAW5
import Derived.Test.YtgpinbepiniogaaGreatDoorPx2
import Derived.Test.YtgpinbepiniogaaGreatDoorAEx3
import Derived.Test.YtgpinbepiniogaaGreatDoorRAH
import Derived.Test.YtgpinbepiniogaaGreatDoorRows
import Derived.Test.YtgpinbepiniogaaGreatDoorTie
import Derived.Test.YtgpinbepiniogaaGreatDoorCards
import Derived.Lib.LaidTab
import Derived.LaidLaws
import Derived.MakeChecks
import Derived.Stop.LaidErr
import Derived.SevenTiedAt
import Derived.WalkKit
import Derived.ProofKit
import Derived.OpenShut
namespace Go.Proofs.YtgpinbepiniogaaGreatDoor
open Go.ChangeShapes Go.WideShapes Go.ChangeAt Go.RowKit Go.AE Go.AE.Y

theorem joined9 : joinedFacts Tryz.checked.prog 9 Tryz.f9 Rows.fnExactBreakSwapsSpec Rows.fnExactBreakSwapsRow = true := by
  rw [checked_is]
  unfold joinedFacts
  rw [words1, words2, words3]
  kernel_rfl

theorem fits25 : Fits Tryz.prog (.pair (.sl (.int .i64)) (.sl (.pair (.int .i64) (.pair (.sl (.int .i64)) (.pair (.sl (.int .i64)) (.pair (.int .i64) (.sl (.sl (.int .i64))))))))) 25 := ⟨_, Tryz.underlying25, by kernel_rfl, _, _, rfl, by kernel_rfl, by kernel_rfl, ⟨3, Tryz.underlying22, by kernel_rfl, Tryz.underlying3, rfl⟩, ⟨_, rfl, by kernel_rfl, by kernel_rfl, 83, Tryz.underlying23, by kernel_rfl, _, Tryz.underlying83, by kernel_rfl, _, _, rfl, by kernel_rfl, by kernel_rfl, ⟨Tryz.underlying3, rfl⟩, .inl ⟨_, _, rfl, by kernel_rfl, by kernel_rfl, ⟨3, Tryz.underlying22, by kernel_rfl, Tryz.underlying3, rfl⟩, .inl ⟨_, _, rfl, by kernel_rfl, by kernel_rfl, ⟨3, Tryz.underlying22, by kernel_rfl, Tryz.underlying3, rfl⟩, .inl ⟨_, _, rfl, by kernel_rfl, by kernel_rfl, ⟨Tryz.underlying3, rfl⟩, ⟨_, rfl, by kernel_rfl, by kernel_rfl, 22, Tryz.underlying39, by kernel_rfl, 3, Tryz.underlying22, by kernel_rfl, Tryz.underlying3, rfl⟩⟩⟩⟩⟩⟩

theorem con9 (l : List (Sigma Ty.den)) (h : l.map (·.1) = [(.pair (.sl (.int .i64)) (.sl (.pair (.int .i64) (.pair (.sl (.int .i64)) (.pair (.sl (.int .i64)) (.pair (.int .i64) (.sl (.sl (.int .i64)))))))))]) (hk : ∀ p ∈ l, Go.AE.okD p.1 p.2) : effK (c_laws_FnExactBreakSwaps (l.map avS) []) (fun av _ => av = .c (.bool true)) := by
  match l, h with
  | [⟨t0, d0⟩], h =>
    simp only [List.map_cons, List.map_nil, List.cons.injEq, and_true] at h
    obtain rfl := h
    have hk0 := hk ⟨_, d0⟩ (by simp)
    exact ⟨true, law_FnExactBreakSwaps d0 hk0, rfl⟩

noncomputable def cellsIn : DataW Unit → Array Value
  | .agg l => (l.map fun | .lit (.int k n) => Value.int k n | _ => .bool false).toArray
  | _ => #[]
noncomputable def lay1 (d : DataW Unit) : Obj → Obj
  | .cells _ t z => .cells (cellsIn d) t z
  | o => o
noncomputable def laidWorld (os : Os) : World :=
  let w0 := World.holding Tryz.prog os ⟨#[], #[], []⟩
  { w0 with heap := (((w0.heap).modify 1 (lay1 Rows.laid_math_bits_deBruijn32tab)).modify 2 (lay1 Rows.laid_math_bits_deBruijn64tab)).modify 0 (lay1 Rows.laid_internal_strconv_uint64pow10) }
theorem laid_plain : (Rows.fnExactBreakSwapsRow.laid.all fun x => x.2.handleName?.isNone) = true := by kernel_rfl
theorem laid_met (os : Os) (args : Array Value) : laidMetH Tryz.prog Rows.fnExactBreakSwapsRow.laid ((laidWorld os).forCall (fun _ _ => 0) ⟨#[], args, []⟩).memory := by
  rw [MakeChecks.laidMetH_plain _ _ _ laid_plain]
  exact laidMet_of_run' 8 (by kernel_rfl) (by kernel_rfl)
theorem pow_named : Tryz.prog.globalNamed "internal/strconv.uint64pow10" = some 0 := by kernel_rfl
theorem pow_typed : (Tryz.prog.globals[0]?).map (·.type) = some 167 := by kernel_rfl
theorem pow_data : (Rows.laid_internal_strconv_uint64pow10 : DataW Unit) = Lib.tabData .u64 Lib.pow10Tab := by kernel_rfl
theorem pow_stands {W : World} (hL : laidMetH Tryz.prog Rows.fnExactBreakSwapsRow.laid W) : GlobOk Tryz.prog W (fun _ => False) := by
  rw [MakeChecks.laidMetH_plain _ _ _ laid_plain] at hL
  have hL : laidMet Tryz.prog [("math/bits.deBruijn32tab", Rows.laid_math_bits_deBruijn32tab), ("math/bits.deBruijn64tab", Rows.laid_math_bits_deBruijn64tab), ("internal/strconv.uint64pow10", Rows.laid_internal_strconv_uint64pow10)] W := hL
  have h := laidMet.tail (laidMet.tail (hL))
  rw [pow_data] at h
  exact glob_of_tab (Lib.tabIs_of_head pow_named pow_typed Tryz.underlying167 Tryz.underlying134 (by kernel_rfl) (by kernel_rfl) h)

set_option maxRecDepth 100000 in
theorem lifted9 (os : Os) (started : os.Started) (H : Type) (enc : TypeId × Value → H) :
    ReturnsInHanded {} Tryz.checked os 9 .any (fun w args => (Rows.fnExactBreakSwapsSpec.pre enc Tryz.prog Tryz.f9 Rows.fnExactBreakSwapsRow.domain false w args ∧ laidMetH Tryz.prog Rows.fnExactBreakSwapsRow.laid w) ∧ sizedMet enc Tryz.prog Tryz.f9 (OpenSpec.ofChange Rows.fnExactBreakSwapsSpec) false w args) (Rows.fnExactBreakSwapsSpec.post enc Tryz.prog Tryz.f9 false true false false) := by
  refine returnsInHanded_of_change_and (C := Tryz.checked) (X := fun w _ => laidMetH Tryz.prog Rows.fnExactBreakSwapsRow.laid w) (fun _ _ _ hh h => h.of_heap hh) own started (by kernel_rfl) Tryz.func9
    (ChangeSpec.witness_at (enc := enc) (C := Tryz.checked) (os := os) (X := fun w _ => laidMetH Tryz.prog Rows.fnExactBreakSwapsRow.laid w) false (laidWorld os) #[.agg #[.slice none 0 0, .slice none 0 0]] 8 rfl (by kernel_rfl) (by kernel_rfl) (by kernel_rfl) (by kernel_rfl) (by kernel_rfl) (laid_met os _)) ?_
  intro W base args ds gs before hval0 hW _ _ hL _
  have hval : ∀ (j : Nat) t v, Tryz.f9.params[j]? = some t → args[j]? = some v → Value.okWide Tryz.prog W .any base t v := hval0
  have hW' := hW
  obtain ⟨p, q, hA0, hV, e, hfz, hnd⟩ := hW
  have hA : DataW.TrodAll enc Tryz.prog W 0 (fun _ => true) true Tryz.f9.params.toList args.toList ds p := hA0
  refine (row_calls (ids := Tryz.f9.params.toList) k_laws_FnExactBreakSwaps con9 (by rw [Tryz.params9]; exact ⟨fits25, trivial⟩) (fun j t v a b => hval j t v (by simpa using a) b) hA (pow_stands hL)).mono ?_
  rintro e W' ⟨rfl, hb⟩
  refine ⟨_, rfl, row_post (tb := 4) laid (by kernel_rfl) rfl (by kernel_rfl) Tryz.underlying4 (fun ds hd => ?_) hW' hb⟩
  have hd : ds.length = 1 := hd
  match ds, hd with
  | [d0], _ => rfl

theorem row9 : Rows.FnExactBreakSwapsSaid :=
  OpenClaim.holds_of_wide 9 Tryz.f9 rfl rfl rfl rfl rfl rfl rfl ⟨rfl, rfl, rfl, rfl, rfl⟩ rfl rfl rfl rfl rfl (by kernel_rfl) Tryz.func9 joined9
    (of_decide_eq_true (by kernel_rfl)) (by unfold Func.isWrapper; first | (rw [if_pos (by decide +kernel)]; kernel_rfl) | (rw [if_neg (by decide +kernel)]; exact ⟨rfl, rfl⟩))
    (fun os started H enc _ => lifted9 os started H enc)

theorem holds9 : Rows.FnExactBreakSwapsCardSaid :=
  Claim7.holds_tied_plain_at .later [] [.data, .data, .data] true (true, "e20fee9c513028f472f9917ffbbcc561dc38397ae4cfe4f14821ddc57addbf72") false
    row9 (fun _ h => by cases h) (by kernel_rfl) (fun _ h => by cases h) fnExactBreakSwaps_row_tie rfl ⟨rfl, rfl⟩ (by kernel_rfl) rfl
    (fun f fn hf hfn => by
      obtain rfl : f = 9 := Option.some.inj ((show Tryz.prog.funcNamed "loop.example/cuttingplanes/laws.FnExactBreakSwaps" = some 9 by kernel_rfl).symm.trans hf) |>.symm
      obtain rfl : fn = Tryz.f9 := (Option.some.inj (Tryz.func9.symm.trans hfn)).symm
      refine ⟨by kernel_rfl, fun j t ht => ?_⟩
      have hm : t ∈ Tryz.f9.params := Array.mem_of_getElem? ht
      rw [Tryz.params9] at hm
      have hm : t = 25 := by simpa using hm
      rcases hm with rfl
      · exact (show Tryz.prog.wantsStandIn 25 = false by kernel_rfl))
    (by kernel_rfl)
#print axioms holds9
end Go.Proofs.YtgpinbepiniogaaGreatDoor
