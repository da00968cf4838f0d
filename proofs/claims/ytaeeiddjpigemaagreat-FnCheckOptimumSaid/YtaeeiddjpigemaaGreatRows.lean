/-
  No cell of these rows narrows 'for every input' (looked for: loops, veiled, ifaces, maps, wideKeys, modest, calm, conditions, laid).
  DERIVED. THE GIVEN ROWS OF THIS SEAT. 8 by the template 'for every input the law returns true; each argument reads behind the call as it read before'; 0 by the template 'total and deterministic' (their statements: YtaeeiddjpigemaaGreatTotals.lean).
  GIVEN WITH THE SEED: the statements are not yours to turn. If you find one false, say at which input.
  Laid BY PROGRAM, IN A SANDBOX (cutbox-rows.mjs): the forced cells as the released guide's own fill.sh prints them over the translation 717f07038b003ad0… (all of the seat's roots in one cut). By AI agents, Wed Nov 11 2026. No macro, syntax, notation, axiom, sorry.
-/
import Derived.Test.YtaeeiddjpigemaaGreatChecked
import GoSem.Claim
import GoSem.ClaimJoined
import GoSem.ClaimMapViews
import Derived.JoinedTies
import Derived.KernelRfl
namespace Go.Proofs.YtaeeiddjpigemaaGreat
/- THE CELL 'sum', in the pinned program and in every row, IS THE sha256 OF THE DUMP (.gsa) THAT YtaeeiddjpigemaaGreatProg.lean LOADS. Nothing in Lean hashes anything: it is a label: what it is worth is what the hold of that sum in a sandbox is worth. -/
noncomputable def Tryz.pinned : Pinned := { name := "ytaeeiddjpigemaagreat", sum := "717f07038b003ad0a5181dca80779444572d770acec46ebaca1588c3084d80b6", checked := Tryz.checked }
namespace Rows
def none {H : Type} : Left H := { results := [], args := [] }

/-- 'laws.FnProveOptimum': WHATEVER THE INPUT: true; the input reads as it did. -/
def fnProveOptimumSpec : ChangeSpec := { name := "fnProveOptimum", fn := fun _ => fun
  | [d] => { results := [.lit (.bool true)], args := [d] }
  | _ => none }
def fnProveOptimumRow : OpenClaim := { program := "ytaeeiddjpigemaagreat", sum := "717f07038b003ad0a5181dca80779444572d770acec46ebaca1588c3084d80b6", func := "loop.example/cuttingplanes/laws.FnProveOptimum", spec := "fnProveOptimum", unfollowed := true, recurses := true, apart := false }
def FnProveOptimumSaid : Prop := fnProveOptimumRow.holds Tryz.pinned (OpenSpec.ofChange fnProveOptimumSpec)

/-- ITS FALSE NEIGHBOUR: 'it returns false'. Refute it at one input. -/
def fnProveOptimumWrong : ChangeSpec := { name := "fnProveOptimum", fn := fun _ => fun
  | [d] => { results := [.lit (.bool false)], args := [d] }
  | _ => none }
def FnProveOptimumWrongFalsely : Prop := fnProveOptimumRow.holds Tryz.pinned (OpenSpec.ofChange fnProveOptimumWrong)

/-- 'laws.FnExactCheckOptimum': WHATEVER THE INPUT: true; the input reads as it did. -/
def fnExactCheckOptimumSpec : ChangeSpec := { name := "fnExactCheckOptimum", fn := fun _ => fun
  | [d1, d2, d3, d4] => { results := [.lit (.bool true)], args := [d1, d2, d3, d4] }
  | _ => none }
def fnExactCheckOptimumRow : OpenClaim := { program := "ytaeeiddjpigemaagreat", sum := "717f07038b003ad0a5181dca80779444572d770acec46ebaca1588c3084d80b6", func := "loop.example/cuttingplanes/laws.FnExactCheckOptimum", spec := "fnExactCheckOptimum", unfollowed := true, recurses := true, apart := false }
def FnExactCheckOptimumSaid : Prop := fnExactCheckOptimumRow.holds Tryz.pinned (OpenSpec.ofChange fnExactCheckOptimumSpec)

/-- ITS FALSE NEIGHBOUR: 'it returns false'. Refute it at one input. -/
def fnExactCheckOptimumWrong : ChangeSpec := { name := "fnExactCheckOptimum", fn := fun _ => fun
  | [d1, d2, d3, d4] => { results := [.lit (.bool false)], args := [d1, d2, d3, d4] }
  | _ => none }
def FnExactCheckOptimumWrongFalsely : Prop := fnExactCheckOptimumRow.holds Tryz.pinned (OpenSpec.ofChange fnExactCheckOptimumWrong)

/-- 'laws.FnCheckOptimum': WHATEVER THE INPUT: true; the input reads as it did. -/
def fnCheckOptimumSpec : ChangeSpec := { name := "fnCheckOptimum", fn := fun _ => fun
  | [d] => { results := [.lit (.bool true)], args := [d] }
  | _ => none }
def fnCheckOptimumRow : OpenClaim := { program := "ytaeeiddjpigemaagreat", sum := "717f07038b003ad0a5181dca80779444572d770acec46ebaca1588c3084d80b6", func := "loop.example/cuttingplanes/laws.FnCheckOptimum", spec := "fnCheckOptimum", unfollowed := true, recurses := true, apart := false }
def FnCheckOptimumSaid : Prop := fnCheckOptimumRow.holds Tryz.pinned (OpenSpec.ofChange fnCheckOptimumSpec)

/-- ITS FALSE NEIGHBOUR: 'it returns false'. Refute it at one input. -/
def fnCheckOptimumWrong : ChangeSpec := { name := "fnCheckOptimum", fn := fun _ => fun
  | [d] => { results := [.lit (.bool false)], args := [d] }
  | _ => none }
def FnCheckOptimumWrongFalsely : Prop := fnCheckOptimumRow.holds Tryz.pinned (OpenSpec.ofChange fnCheckOptimumWrong)

/-- 'laws.FnExactUsedInputs': WHATEVER THE INPUT: true; the input reads as it did. -/
def fnExactUsedInputsSpec : ChangeSpec := { name := "fnExactUsedInputs", fn := fun _ => fun
  | [d1, d2] => { results := [.lit (.bool true)], args := [d1, d2] }
  | _ => none }
def fnExactUsedInputsRow : OpenClaim := { program := "ytaeeiddjpigemaagreat", sum := "717f07038b003ad0a5181dca80779444572d770acec46ebaca1588c3084d80b6", func := "loop.example/cuttingplanes/laws.FnExactUsedInputs", spec := "fnExactUsedInputs", unfollowed := true, recurses := true, apart := false }
def FnExactUsedInputsSaid : Prop := fnExactUsedInputsRow.holds Tryz.pinned (OpenSpec.ofChange fnExactUsedInputsSpec)

/-- ITS FALSE NEIGHBOUR: 'it returns false'. Refute it at one input. -/
def fnExactUsedInputsWrong : ChangeSpec := { name := "fnExactUsedInputs", fn := fun _ => fun
  | [d1, d2] => { results := [.lit (.bool false)], args := [d1, d2] }
  | _ => none }
def FnExactUsedInputsWrongFalsely : Prop := fnExactUsedInputsRow.holds Tryz.pinned (OpenSpec.ofChange fnExactUsedInputsWrong)

/-- 'laws.FnUsedInputs': WHATEVER THE INPUT: true; the input reads as it did. -/
def fnUsedInputsSpec : ChangeSpec := { name := "fnUsedInputs", fn := fun _ => fun
  | [d] => { results := [.lit (.bool true)], args := [d] }
  | _ => none }
def fnUsedInputsRow : OpenClaim := { program := "ytaeeiddjpigemaagreat", sum := "717f07038b003ad0a5181dca80779444572d770acec46ebaca1588c3084d80b6", func := "loop.example/cuttingplanes/laws.FnUsedInputs", spec := "fnUsedInputs", unfollowed := true, recurses := true, apart := false }
def FnUsedInputsSaid : Prop := fnUsedInputsRow.holds Tryz.pinned (OpenSpec.ofChange fnUsedInputsSpec)

/-- ITS FALSE NEIGHBOUR: 'it returns false'. Refute it at one input. -/
def fnUsedInputsWrong : ChangeSpec := { name := "fnUsedInputs", fn := fun _ => fun
  | [d] => { results := [.lit (.bool false)], args := [d] }
  | _ => none }
def FnUsedInputsWrongFalsely : Prop := fnUsedInputsRow.holds Tryz.pinned (OpenSpec.ofChange fnUsedInputsWrong)

/-- 'laws.FnCoreSearch': WHATEVER THE INPUT: true; the input reads as it did. -/
def fnCoreSearchSpec : ChangeSpec := { name := "fnCoreSearch", fn := fun _ => fun
  | [d] => { results := [.lit (.bool true)], args := [d] }
  | _ => none }
def fnCoreSearchRow : OpenClaim := { program := "ytaeeiddjpigemaagreat", sum := "717f07038b003ad0a5181dca80779444572d770acec46ebaca1588c3084d80b6", func := "loop.example/cuttingplanes/laws.FnCoreSearch", spec := "fnCoreSearch", unfollowed := true, recurses := true, apart := false }
def FnCoreSearchSaid : Prop := fnCoreSearchRow.holds Tryz.pinned (OpenSpec.ofChange fnCoreSearchSpec)

/-- ITS FALSE NEIGHBOUR: 'it returns false'. Refute it at one input. -/
def fnCoreSearchWrong : ChangeSpec := { name := "fnCoreSearch", fn := fun _ => fun
  | [d] => { results := [.lit (.bool false)], args := [d] }
  | _ => none }
def FnCoreSearchWrongFalsely : Prop := fnCoreSearchRow.holds Tryz.pinned (OpenSpec.ofChange fnCoreSearchWrong)

/-- 'laws.FnExactProveOptimum': WHATEVER THE INPUT: true; the input reads as it did. -/
def fnExactProveOptimumSpec : ChangeSpec := { name := "fnExactProveOptimum", fn := fun _ => fun
  | [d1, d2, d3] => { results := [.lit (.bool true)], args := [d1, d2, d3] }
  | _ => none }
def fnExactProveOptimumRow : OpenClaim := { program := "ytaeeiddjpigemaagreat", sum := "717f07038b003ad0a5181dca80779444572d770acec46ebaca1588c3084d80b6", func := "loop.example/cuttingplanes/laws.FnExactProveOptimum", spec := "fnExactProveOptimum", unfollowed := true, recurses := true, apart := false }
def FnExactProveOptimumSaid : Prop := fnExactProveOptimumRow.holds Tryz.pinned (OpenSpec.ofChange fnExactProveOptimumSpec)

/-- ITS FALSE NEIGHBOUR: 'it returns false'. Refute it at one input. -/
def fnExactProveOptimumWrong : ChangeSpec := { name := "fnExactProveOptimum", fn := fun _ => fun
  | [d1, d2, d3] => { results := [.lit (.bool false)], args := [d1, d2, d3] }
  | _ => none }
def FnExactProveOptimumWrongFalsely : Prop := fnExactProveOptimumRow.holds Tryz.pinned (OpenSpec.ofChange fnExactProveOptimumWrong)

/-- 'laws.FnProveNone': WHATEVER THE INPUT: true; the input reads as it did. -/
def fnProveNoneSpec : ChangeSpec := { name := "fnProveNone", fn := fun _ => fun
  | [d] => { results := [.lit (.bool true)], args := [d] }
  | _ => none }
def fnProveNoneRow : OpenClaim := { program := "ytaeeiddjpigemaagreat", sum := "717f07038b003ad0a5181dca80779444572d770acec46ebaca1588c3084d80b6", func := "loop.example/cuttingplanes/laws.FnProveNone", spec := "fnProveNone", unfollowed := true, recurses := true, apart := false }
def FnProveNoneSaid : Prop := fnProveNoneRow.holds Tryz.pinned (OpenSpec.ofChange fnProveNoneSpec)

/-- ITS FALSE NEIGHBOUR: 'it returns false'. Refute it at one input. -/
def fnProveNoneWrong : ChangeSpec := { name := "fnProveNone", fn := fun _ => fun
  | [d] => { results := [.lit (.bool false)], args := [d] }
  | _ => none }
def FnProveNoneWrongFalsely : Prop := fnProveNoneRow.holds Tryz.pinned (OpenSpec.ofChange fnProveNoneWrong)

/- THE SECOND FORM. 'bulk': how many values and letters a reading holds, each counted each time it is reached (what is shared counts as often as it is met; a slice's spare places count too). A statement '..UptoSaid' is the law's where the arguments, and the package variables that the reading takes, are together of bulk at most 1048576: NARROWER than '..Said'. Prove '..Said' where nothing that the law and all that it calls make is longer than what came in: it says more and counts as full. Else prove '..UptoSaid'. A law counts once. -/
mutual
def uptoBulk {H : Type} : DataW H → Nat
  | .lit (.string bytes) => bytes.length + 1
  | .lit _ => 1
  | .nil => 1
  | .ptr d => uptoBulk d + 1
  | .slice elems spare => uptoBulkAll elems + uptoBulkAll spare + 1
  | .agg parts => uptoBulkAll parts + 1
  | .iface _ d => uptoBulk d + 1
  | .map entries => uptoBulkEntries entries + 1
  | .held _ => 1
def uptoBulkAll {H : Type} : List (DataW H) → Nat
  | [] => 0
  | d :: r => uptoBulk d + uptoBulkAll r
def uptoBulkEntries {H : Type} : List (Lit × DataW H) → Nat
  | [] => 0
  | x :: r => uptoBulkEntry x + uptoBulkEntries r
def uptoBulkEntry {H : Type} : Lit × DataW H → Nat
  | (.string bytes, d) => bytes.length + uptoBulk d + 1
  | (_, d) => uptoBulk d + 1
 end
def uptoSmall : (H : Type) → List (DataW H) → Bool := fun _ ds => decide (uptoBulkAll ds ≤ 1048576)
def OpenSpec.upto (s : _root_.Go.ChangeSpec) : _root_.Go.OpenSpec := { _root_.Go.OpenSpec.ofChange s with cond := some uptoSmall }

/-- 'laws.FnProveOptimum', WHERE WHAT IT READS IS OF BULK AT MOST 1048576: true; the input reads as it did. -/
def fnProveOptimumUptoRow : OpenClaim := { program := "ytaeeiddjpigemaagreat", sum := "717f07038b003ad0a5181dca80779444572d770acec46ebaca1588c3084d80b6", func := "loop.example/cuttingplanes/laws.FnProveOptimum", spec := "fnProveOptimum", unfollowed := true, recurses := true, apart := false, narrowed := true }
def FnProveOptimumUptoSaid : Prop := fnProveOptimumUptoRow.holds Tryz.pinned (OpenSpec.upto fnProveOptimumSpec)

/-- 'laws.FnExactCheckOptimum', WHERE WHAT IT READS IS OF BULK AT MOST 1048576: true; the input reads as it did. -/
def fnExactCheckOptimumUptoRow : OpenClaim := { program := "ytaeeiddjpigemaagreat", sum := "717f07038b003ad0a5181dca80779444572d770acec46ebaca1588c3084d80b6", func := "loop.example/cuttingplanes/laws.FnExactCheckOptimum", spec := "fnExactCheckOptimum", unfollowed := true, recurses := true, apart := false, narrowed := true }
def FnExactCheckOptimumUptoSaid : Prop := fnExactCheckOptimumUptoRow.holds Tryz.pinned (OpenSpec.upto fnExactCheckOptimumSpec)

/-- 'laws.FnCheckOptimum', WHERE WHAT IT READS IS OF BULK AT MOST 1048576: true; the input reads as it did. -/
def fnCheckOptimumUptoRow : OpenClaim := { program := "ytaeeiddjpigemaagreat", sum := "717f07038b003ad0a5181dca80779444572d770acec46ebaca1588c3084d80b6", func := "loop.example/cuttingplanes/laws.FnCheckOptimum", spec := "fnCheckOptimum", unfollowed := true, recurses := true, apart := false, narrowed := true }
def FnCheckOptimumUptoSaid : Prop := fnCheckOptimumUptoRow.holds Tryz.pinned (OpenSpec.upto fnCheckOptimumSpec)

/-- 'laws.FnExactUsedInputs', WHERE WHAT IT READS IS OF BULK AT MOST 1048576: true; the input reads as it did. -/
def fnExactUsedInputsUptoRow : OpenClaim := { program := "ytaeeiddjpigemaagreat", sum := "717f07038b003ad0a5181dca80779444572d770acec46ebaca1588c3084d80b6", func := "loop.example/cuttingplanes/laws.FnExactUsedInputs", spec := "fnExactUsedInputs", unfollowed := true, recurses := true, apart := false, narrowed := true }
def FnExactUsedInputsUptoSaid : Prop := fnExactUsedInputsUptoRow.holds Tryz.pinned (OpenSpec.upto fnExactUsedInputsSpec)

/-- 'laws.FnUsedInputs', WHERE WHAT IT READS IS OF BULK AT MOST 1048576: true; the input reads as it did. -/
def fnUsedInputsUptoRow : OpenClaim := { program := "ytaeeiddjpigemaagreat", sum := "717f07038b003ad0a5181dca80779444572d770acec46ebaca1588c3084d80b6", func := "loop.example/cuttingplanes/laws.FnUsedInputs", spec := "fnUsedInputs", unfollowed := true, recurses := true, apart := false, narrowed := true }
def FnUsedInputsUptoSaid : Prop := fnUsedInputsUptoRow.holds Tryz.pinned (OpenSpec.upto fnUsedInputsSpec)

/-- 'laws.FnCoreSearch', WHERE WHAT IT READS IS OF BULK AT MOST 1048576: true; the input reads as it did. -/
def fnCoreSearchUptoRow : OpenClaim := { program := "ytaeeiddjpigemaagreat", sum := "717f07038b003ad0a5181dca80779444572d770acec46ebaca1588c3084d80b6", func := "loop.example/cuttingplanes/laws.FnCoreSearch", spec := "fnCoreSearch", unfollowed := true, recurses := true, apart := false, narrowed := true }
def FnCoreSearchUptoSaid : Prop := fnCoreSearchUptoRow.holds Tryz.pinned (OpenSpec.upto fnCoreSearchSpec)

/-- 'laws.FnExactProveOptimum', WHERE WHAT IT READS IS OF BULK AT MOST 1048576: true; the input reads as it did. -/
def fnExactProveOptimumUptoRow : OpenClaim := { program := "ytaeeiddjpigemaagreat", sum := "717f07038b003ad0a5181dca80779444572d770acec46ebaca1588c3084d80b6", func := "loop.example/cuttingplanes/laws.FnExactProveOptimum", spec := "fnExactProveOptimum", unfollowed := true, recurses := true, apart := false, narrowed := true }
def FnExactProveOptimumUptoSaid : Prop := fnExactProveOptimumUptoRow.holds Tryz.pinned (OpenSpec.upto fnExactProveOptimumSpec)

/-- 'laws.FnProveNone', WHERE WHAT IT READS IS OF BULK AT MOST 1048576: true; the input reads as it did. -/
def fnProveNoneUptoRow : OpenClaim := { program := "ytaeeiddjpigemaagreat", sum := "717f07038b003ad0a5181dca80779444572d770acec46ebaca1588c3084d80b6", func := "loop.example/cuttingplanes/laws.FnProveNone", spec := "fnProveNone", unfollowed := true, recurses := true, apart := false, narrowed := true }
def FnProveNoneUptoSaid : Prop := fnProveNoneUptoRow.holds Tryz.pinned (OpenSpec.upto fnProveNoneSpec)

end Rows
end Go.Proofs.YtaeeiddjpigemaaGreat
