/-
  The words of the program's head, and what the rows ask of them. No conditions.
-/
import Derived.Test.YtgpinbepiniogaaAEx3
import Derived.Test.YtgpinbepiniogaaRows
import Derived.WalkKit
import Derived.ProofKit
import Derived.OpenShut
namespace Go.AE.Y
open Go Go.AE Go.Proofs Go.Proofs.Ytgpinbepiniogaa
set_option maxRecDepth 100000

abbrev hio : List Char := ([104, 97, 114, 110, 101, 115, 115, 32, 51, 101, 52, 48, 48, 51, 52, 48, 50, 53, 51, 53, 55, 53, 49, 97, 102, 50, 54, 100, 52, 48, 57, 52, 101, 57, 51, 56, 55, 54, 101, 48, 97, 98, 98, 99, 50, 48, 54, 53, 52, 99, 50, 51, 50, 49, 49, 53, 51, 57, 98, 51, 100, 97, 102, 53, 55, 51, 99, 48, 53, 57, 53, 52, 32, 99, 117, 116, 32, 97, 116, 32, 108, 111, 111, 112, 46, 101, 120, 97, 109, 112, 108, 101, 47, 99, 117, 116, 116, 105, 110, 103, 112, 108, 97, 110, 101, 115, 47, 108, 97, 119, 115, 46, 70, 110, 67, 97, 110, 111, 110, 105, 99, 97, 108, 82, 117, 108, 101, 32, 108, 111, 111, 112, 46, 101, 120, 97, 109, 112, 108, 101, 47, 99, 117, 116, 116, 105, 110, 103, 112, 108, 97, 110, 101, 115, 47, 108, 97, 119, 115, 46, 70, 110, 69, 120, 97, 99, 116, 67, 97, 110, 111, 110, 105, 99, 97, 108, 82, 117, 108, 101] : List Nat).map Char.ofNat
abbrev hwl : List (List Char) := [([99, 117, 116] : List Nat).map Char.ofNat, ([97, 116] : List Nat).map Char.ofNat, ([108, 111, 111, 112, 46, 101, 120, 97, 109, 112, 108, 101, 47, 99, 117, 116, 116, 105, 110, 103, 112, 108, 97, 110, 101, 115, 47, 108, 97, 119, 115, 46, 70, 110, 67, 97, 110, 111, 110, 105, 99, 97, 108, 82, 117, 108, 101] : List Nat).map Char.ofNat, ([108, 111, 111, 112, 46, 101, 120, 97, 109, 112, 108, 101, 47, 99, 117, 116, 116, 105, 110, 103, 112, 108, 97, 110, 101, 115, 47, 108, 97, 119, 115, 46, 70, 110, 69, 120, 97, 99, 116, 67, 97, 110, 111, 110, 105, 99, 97, 108, 82, 117, 108, 101] : List Nat).map Char.ofNat]
theorem t_gc : ("gc" : String).toList = ([103, 99] : List Nat).map Char.ofNat := by
  have h : ("gc" : String) = String.ofList (([103, 99] : List Nat).map Char.ofNat) := by kernel_rfl
  rw [h, String.toList_ofList]
theorem t_spec : ("spec" : String).toList = ([115, 112, 101, 99] : List Nat).map Char.ofNat := by
  have h : ("spec" : String) = String.ofList (([115, 112, 101, 99] : List Nat).map Char.ofNat) := by kernel_rfl
  rw [h, String.toList_ofList]
theorem t_carried : ("carried" : String).toList = ([99, 97, 114, 114, 105, 101, 100] : List Nat).map Char.ofNat := by
  have h : ("carried" : String) = String.ofList (([99, 97, 114, 114, 105, 101, 100] : List Nat).map Char.ofNat) := by kernel_rfl
  rw [h, String.toList_ofList]
theorem t_cut : ("cut" : String).toList = ([99, 117, 116] : List Nat).map Char.ofNat := by
  have h : ("cut" : String) = String.ofList (([99, 117, 116] : List Nat).map Char.ofNat) := by kernel_rfl
  rw [h, String.toList_ofList]
theorem lifts_at : liftWords.map String.toList = [([102, 105, 110, 97, 108, 115] : List Nat).map Char.ofNat, ([114, 101, 102, 108, 101, 99, 116, 114, 111, 119, 115] : List Nat).map Char.ofNat, ([108, 101, 97, 110, 114, 111, 119, 115] : List Nat).map Char.ofNat, ([111, 110, 101, 98, 117, 105, 108, 100] : List Nat).map Char.ofNat, ([112, 117, 98, 108, 105, 99, 115, 117, 109, 115] : List Nat).map Char.ofNat, ([101, 113, 103, 117, 97, 114, 100] : List Nat).map Char.ofNat, ([111, 119, 110, 117, 110, 115, 97, 102, 101] : List Nat).map Char.ofNat, ([108, 105, 98, 98, 101, 115, 105, 100, 101] : List Nat).map Char.ofNat, ([111, 119, 110, 98, 101, 115, 105, 100, 101] : List Nat).map Char.ofNat, ([114, 101, 102, 108, 98, 101, 115, 105, 100, 101] : List Nat).map Char.ofNat, ([97, 108, 105, 97, 115, 101, 115] : List Nat).map Char.ofNat, ([97, 102, 116, 101, 114, 105, 110, 105, 116] : List Nat).map Char.ofNat, ([99, 114, 99, 112, 108, 97, 105, 110] : List Nat).map Char.ofNat, ([114, 111, 97, 100, 117, 110, 115, 97, 102, 101] : List Nat).map Char.ofNat, ([102, 109, 116, 104, 97, 110, 100, 111, 110] : List Nat).map Char.ofNat] := by
  have h : liftWords = [String.ofList (([102, 105, 110, 97, 108, 115] : List Nat).map Char.ofNat), String.ofList (([114, 101, 102, 108, 101, 99, 116, 114, 111, 119, 115] : List Nat).map Char.ofNat), String.ofList (([108, 101, 97, 110, 114, 111, 119, 115] : List Nat).map Char.ofNat), String.ofList (([111, 110, 101, 98, 117, 105, 108, 100] : List Nat).map Char.ofNat), String.ofList (([112, 117, 98, 108, 105, 99, 115, 117, 109, 115] : List Nat).map Char.ofNat), String.ofList (([101, 113, 103, 117, 97, 114, 100] : List Nat).map Char.ofNat), String.ofList (([111, 119, 110, 117, 110, 115, 97, 102, 101] : List Nat).map Char.ofNat), String.ofList (([108, 105, 98, 98, 101, 115, 105, 100, 101] : List Nat).map Char.ofNat), String.ofList (([111, 119, 110, 98, 101, 115, 105, 100, 101] : List Nat).map Char.ofNat), String.ofList (([114, 101, 102, 108, 98, 101, 115, 105, 100, 101] : List Nat).map Char.ofNat), String.ofList (([97, 108, 105, 97, 115, 101, 115] : List Nat).map Char.ofNat), String.ofList (([97, 102, 116, 101, 114, 105, 110, 105, 116] : List Nat).map Char.ofNat), String.ofList (([99, 114, 99, 112, 108, 97, 105, 110] : List Nat).map Char.ofNat), String.ofList (([114, 111, 97, 100, 117, 110, 115, 97, 102, 101] : List Nat).map Char.ofNat), String.ofList (([102, 109, 116, 104, 97, 110, 100, 111, 110] : List Nat).map Char.ofNat)] := by kernel_rfl
  rw [h]
  simp only [List.map_cons, List.map_nil, String.toList_ofList]
theorem words0 : Try.prog.initOrder.toList = (hio) := by
  have h0 : Try.prog.initOrder = "harness 3e4003402535751af26d4094e93876e0abbc20654c23211539b3daf573c05954 cut at loop.example/cuttingplanes/laws.FnCanonicalRule loop.example/cuttingplanes/laws.FnExactCanonicalRule" := by kernel_rfl
  have h : ("harness 3e4003402535751af26d4094e93876e0abbc20654c23211539b3daf573c05954 cut at loop.example/cuttingplanes/laws.FnCanonicalRule loop.example/cuttingplanes/laws.FnExactCanonicalRule" : String) = String.ofList (hio) := by kernel_rfl
  exact (congrArg String.toList (h0.trans h)).trans (by rw [String.toList_ofList])
theorem words_split : behindMainWord (wordsSigns (hio)) = (hwl : List (List Char)) := by kernel_rfl
theorem words : behindMainWord (wordsSigns Try.prog.initOrder.toList) = (hwl : List (List Char)) := (congrArg (fun l => behindMainWord (wordsSigns l)) words0).trans words_split
theorem stripped : stripLifts liftWords (hwl : List (List Char)) = ([], (hwl : List (List Char))) := strip_none _ _ _ (by rw [lifts_at]; kernel_rfl)
theorem cut_is : (([99, 117, 116] : List Nat).map Char.ofNat == "cut".toList) = true := by rw [t_cut]; kernel_rfl
theorem words1 : Try.prog.mayEnter = true := mayEnter_of words stripped cut_is (by kernel_rfl) (by kernel_rfl) (by kernel_rfl)
theorem words2 : Try.prog.liftsFinal = false := liftsFinal_of words (headLifts_of words stripped) (by rw [t_carried]; kernel_rfl)
theorem words3 : Try.prog.make = some .cut := make_of words (by rw [t_gc, t_spec]; kernel_rfl) cut_is
theorem checked_is : Try.checked.prog = Try.prog := by kernel_rfl
theorem own : ownKnob Try.prog.godebug = none := by kernel_rfl
theorem laid : laidOutB Try.prog = true := by kernel_rfl

end Go.AE.Y
