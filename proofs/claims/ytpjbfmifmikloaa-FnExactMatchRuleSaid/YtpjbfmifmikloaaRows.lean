/-
  No cell of these rows narrows 'for every input' (looked for: loops, veiled, ifaces, maps, wideKeys, modest, calm, conditions, laid).
  DERIVED. THE GIVEN ROWS OF THIS SEAT. 12 by the template 'for every input the law returns true; each argument reads behind the call as it read before'; 0 by the template 'total and deterministic' (their statements: YtpjbfmifmikloaaTotals.lean).
  GIVEN WITH THE SEED: the statements are not yours to turn. If you find one false, say at which input.
  Laid BY PROGRAM, IN A SANDBOX (cutbox-rows.mjs): the forced cells as the released guide's own fill.sh prints them over the translation 62626bea9a5a0256… (all of the seat's roots in one cut). By AI agents, Wed Nov 11 2026. No macro, syntax, notation, axiom, sorry.
-/
import Derived.Test.YtpjbfmifmikloaaChecked
import GoSem.Claim
import GoSem.ClaimJoined
import GoSem.ClaimMapViews
import Derived.JoinedTies
import Derived.KernelRfl
namespace Go.Proofs.Ytpjbfmifmikloaa
/- THE CELL 'sum', in the pinned program and in every row, IS THE sha256 OF THE DUMP (.gsa) THAT YtpjbfmifmikloaaProg.lean LOADS. Nothing in Lean hashes anything: it is a label: what it is worth is what the hold of that sum in a sandbox is worth. -/
noncomputable def Try.pinned : Pinned := { name := "ytpjbfmifmikloaa", sum := "62626bea9a5a0256c6cb69e98ab5233790372f79b351e5fa7eafff7efe2e8acf", checked := Try.checked }
namespace Rows
def none {H : Type} : Left H := { results := [], args := [] }

/-- 'laws.FnExactDomainsEmpty': WHATEVER THE INPUT: true; the input reads as it did. -/
def fnExactDomainsEmptySpec : ChangeSpec := { name := "fnExactDomainsEmpty", fn := fun _ => fun
  | [d1, d2] => { results := [.lit (.bool true)], args := [d1, d2] }
  | _ => none }
def fnExactDomainsEmptyRow : OpenClaim := { program := "ytpjbfmifmikloaa", sum := "62626bea9a5a0256c6cb69e98ab5233790372f79b351e5fa7eafff7efe2e8acf", func := "loop.example/cuttingplanes/laws.FnExactDomainsEmpty", spec := "fnExactDomainsEmpty", unfollowed := true, recurses := true, apart := false }
def FnExactDomainsEmptySaid : Prop := fnExactDomainsEmptyRow.holds Try.pinned (OpenSpec.ofChange fnExactDomainsEmptySpec)

/-- ITS FALSE NEIGHBOUR: 'it returns false'. Refute it at one input. -/
def fnExactDomainsEmptyWrong : ChangeSpec := { name := "fnExactDomainsEmpty", fn := fun _ => fun
  | [d1, d2] => { results := [.lit (.bool false)], args := [d1, d2] }
  | _ => none }
def FnExactDomainsEmptyWrongFalsely : Prop := fnExactDomainsEmptyRow.holds Try.pinned (OpenSpec.ofChange fnExactDomainsEmptyWrong)

/-- 'laws.FnMinimalCore': WHATEVER THE INPUT: true; the input reads as it did. -/
def fnMinimalCoreSpec : ChangeSpec := { name := "fnMinimalCore", fn := fun _ => fun
  | [d] => { results := [.lit (.bool true)], args := [d] }
  | _ => none }
def fnMinimalCoreRow : OpenClaim := { program := "ytpjbfmifmikloaa", sum := "62626bea9a5a0256c6cb69e98ab5233790372f79b351e5fa7eafff7efe2e8acf", func := "loop.example/cuttingplanes/laws.FnMinimalCore", spec := "fnMinimalCore", unfollowed := true, recurses := true, apart := false }
def FnMinimalCoreSaid : Prop := fnMinimalCoreRow.holds Try.pinned (OpenSpec.ofChange fnMinimalCoreSpec)

/-- ITS FALSE NEIGHBOUR: 'it returns false'. Refute it at one input. -/
def fnMinimalCoreWrong : ChangeSpec := { name := "fnMinimalCore", fn := fun _ => fun
  | [d] => { results := [.lit (.bool false)], args := [d] }
  | _ => none }
def FnMinimalCoreWrongFalsely : Prop := fnMinimalCoreRow.holds Try.pinned (OpenSpec.ofChange fnMinimalCoreWrong)

/-- 'laws.FnExactPermuteCells': WHATEVER THE INPUT: true; the input reads as it did. -/
def fnExactPermuteCellsSpec : ChangeSpec := { name := "fnExactPermuteCells", fn := fun _ => fun
  | [d1, d2, d3] => { results := [.lit (.bool true)], args := [d1, d2, d3] }
  | _ => none }
def fnExactPermuteCellsRow : OpenClaim := { program := "ytpjbfmifmikloaa", sum := "62626bea9a5a0256c6cb69e98ab5233790372f79b351e5fa7eafff7efe2e8acf", func := "loop.example/cuttingplanes/laws.FnExactPermuteCells", spec := "fnExactPermuteCells", unfollowed := true, recurses := true, apart := false }
def FnExactPermuteCellsSaid : Prop := fnExactPermuteCellsRow.holds Try.pinned (OpenSpec.ofChange fnExactPermuteCellsSpec)

/-- ITS FALSE NEIGHBOUR: 'it returns false'. Refute it at one input. -/
def fnExactPermuteCellsWrong : ChangeSpec := { name := "fnExactPermuteCells", fn := fun _ => fun
  | [d1, d2, d3] => { results := [.lit (.bool false)], args := [d1, d2, d3] }
  | _ => none }
def FnExactPermuteCellsWrongFalsely : Prop := fnExactPermuteCellsRow.holds Try.pinned (OpenSpec.ofChange fnExactPermuteCellsWrong)

/-- 'laws.FnPermuteCells': WHATEVER THE INPUT: true; the input reads as it did. -/
def fnPermuteCellsSpec : ChangeSpec := { name := "fnPermuteCells", fn := fun _ => fun
  | [d] => { results := [.lit (.bool true)], args := [d] }
  | _ => none }
def fnPermuteCellsRow : OpenClaim := { program := "ytpjbfmifmikloaa", sum := "62626bea9a5a0256c6cb69e98ab5233790372f79b351e5fa7eafff7efe2e8acf", func := "loop.example/cuttingplanes/laws.FnPermuteCells", spec := "fnPermuteCells", unfollowed := true, recurses := true, apart := false }
def FnPermuteCellsSaid : Prop := fnPermuteCellsRow.holds Try.pinned (OpenSpec.ofChange fnPermuteCellsSpec)

/-- ITS FALSE NEIGHBOUR: 'it returns false'. Refute it at one input. -/
def fnPermuteCellsWrong : ChangeSpec := { name := "fnPermuteCells", fn := fun _ => fun
  | [d] => { results := [.lit (.bool false)], args := [d] }
  | _ => none }
def FnPermuteCellsWrongFalsely : Prop := fnPermuteCellsRow.holds Try.pinned (OpenSpec.ofChange fnPermuteCellsWrong)

/-- 'laws.FnExactCellsIn': WHATEVER THE INPUT: true; the input reads as it did. -/
def fnExactCellsInSpec : ChangeSpec := { name := "fnExactCellsIn", fn := fun _ => fun
  | [d1, d2, d3] => { results := [.lit (.bool true)], args := [d1, d2, d3] }
  | _ => none }
def fnExactCellsInRow : OpenClaim := { program := "ytpjbfmifmikloaa", sum := "62626bea9a5a0256c6cb69e98ab5233790372f79b351e5fa7eafff7efe2e8acf", func := "loop.example/cuttingplanes/laws.FnExactCellsIn", spec := "fnExactCellsIn", unfollowed := true, recurses := true, apart := false }
def FnExactCellsInSaid : Prop := fnExactCellsInRow.holds Try.pinned (OpenSpec.ofChange fnExactCellsInSpec)

/-- ITS FALSE NEIGHBOUR: 'it returns false'. Refute it at one input. -/
def fnExactCellsInWrong : ChangeSpec := { name := "fnExactCellsIn", fn := fun _ => fun
  | [d1, d2, d3] => { results := [.lit (.bool false)], args := [d1, d2, d3] }
  | _ => none }
def FnExactCellsInWrongFalsely : Prop := fnExactCellsInRow.holds Try.pinned (OpenSpec.ofChange fnExactCellsInWrong)

/-- 'laws.FnExactLowerBound': WHATEVER THE INPUT: true; the input reads as it did. -/
def fnExactLowerBoundSpec : ChangeSpec := { name := "fnExactLowerBound", fn := fun _ => fun
  | [d1, d2, d3] => { results := [.lit (.bool true)], args := [d1, d2, d3] }
  | _ => none }
def fnExactLowerBoundRow : OpenClaim := { program := "ytpjbfmifmikloaa", sum := "62626bea9a5a0256c6cb69e98ab5233790372f79b351e5fa7eafff7efe2e8acf", func := "loop.example/cuttingplanes/laws.FnExactLowerBound", spec := "fnExactLowerBound", unfollowed := true, recurses := true, apart := false }
def FnExactLowerBoundSaid : Prop := fnExactLowerBoundRow.holds Try.pinned (OpenSpec.ofChange fnExactLowerBoundSpec)

/-- ITS FALSE NEIGHBOUR: 'it returns false'. Refute it at one input. -/
def fnExactLowerBoundWrong : ChangeSpec := { name := "fnExactLowerBound", fn := fun _ => fun
  | [d1, d2, d3] => { results := [.lit (.bool false)], args := [d1, d2, d3] }
  | _ => none }
def FnExactLowerBoundWrongFalsely : Prop := fnExactLowerBoundRow.holds Try.pinned (OpenSpec.ofChange fnExactLowerBoundWrong)

/-- 'laws.FnExactPermuteModel': WHATEVER THE INPUT: true; the input reads as it did. -/
def fnExactPermuteModelSpec : ChangeSpec := { name := "fnExactPermuteModel", fn := fun _ => fun
  | [d1, d2] => { results := [.lit (.bool true)], args := [d1, d2] }
  | _ => none }
def fnExactPermuteModelRow : OpenClaim := { program := "ytpjbfmifmikloaa", sum := "62626bea9a5a0256c6cb69e98ab5233790372f79b351e5fa7eafff7efe2e8acf", func := "loop.example/cuttingplanes/laws.FnExactPermuteModel", spec := "fnExactPermuteModel", unfollowed := true, recurses := true, apart := false }
def FnExactPermuteModelSaid : Prop := fnExactPermuteModelRow.holds Try.pinned (OpenSpec.ofChange fnExactPermuteModelSpec)

/-- ITS FALSE NEIGHBOUR: 'it returns false'. Refute it at one input. -/
def fnExactPermuteModelWrong : ChangeSpec := { name := "fnExactPermuteModel", fn := fun _ => fun
  | [d1, d2] => { results := [.lit (.bool false)], args := [d1, d2] }
  | _ => none }
def FnExactPermuteModelWrongFalsely : Prop := fnExactPermuteModelRow.holds Try.pinned (OpenSpec.ofChange fnExactPermuteModelWrong)

/-- 'laws.FnMinimizeDouble': WHATEVER THE INPUT: true; the input reads as it did. -/
def fnMinimizeDoubleSpec : ChangeSpec := { name := "fnMinimizeDouble", fn := fun _ => fun
  | [d] => { results := [.lit (.bool true)], args := [d] }
  | _ => none }
def fnMinimizeDoubleRow : OpenClaim := { program := "ytpjbfmifmikloaa", sum := "62626bea9a5a0256c6cb69e98ab5233790372f79b351e5fa7eafff7efe2e8acf", func := "loop.example/cuttingplanes/laws.FnMinimizeDouble", spec := "fnMinimizeDouble", unfollowed := true, recurses := true, apart := false }
def FnMinimizeDoubleSaid : Prop := fnMinimizeDoubleRow.holds Try.pinned (OpenSpec.ofChange fnMinimizeDoubleSpec)

/-- ITS FALSE NEIGHBOUR: 'it returns false'. Refute it at one input. -/
def fnMinimizeDoubleWrong : ChangeSpec := { name := "fnMinimizeDouble", fn := fun _ => fun
  | [d] => { results := [.lit (.bool false)], args := [d] }
  | _ => none }
def FnMinimizeDoubleWrongFalsely : Prop := fnMinimizeDoubleRow.holds Try.pinned (OpenSpec.ofChange fnMinimizeDoubleWrong)

/-- 'laws.FnExactMatchRule': WHATEVER THE INPUT: true; the input reads as it did. -/
def fnExactMatchRuleSpec : ChangeSpec := { name := "fnExactMatchRule", fn := fun _ => fun
  | [d1, d2, d3] => { results := [.lit (.bool true)], args := [d1, d2, d3] }
  | _ => none }
def fnExactMatchRuleRow : OpenClaim := { program := "ytpjbfmifmikloaa", sum := "62626bea9a5a0256c6cb69e98ab5233790372f79b351e5fa7eafff7efe2e8acf", func := "loop.example/cuttingplanes/laws.FnExactMatchRule", spec := "fnExactMatchRule", unfollowed := true, recurses := true, apart := false }
def FnExactMatchRuleSaid : Prop := fnExactMatchRuleRow.holds Try.pinned (OpenSpec.ofChange fnExactMatchRuleSpec)

/-- ITS FALSE NEIGHBOUR: 'it returns false'. Refute it at one input. -/
def fnExactMatchRuleWrong : ChangeSpec := { name := "fnExactMatchRule", fn := fun _ => fun
  | [d1, d2, d3] => { results := [.lit (.bool false)], args := [d1, d2, d3] }
  | _ => none }
def FnExactMatchRuleWrongFalsely : Prop := fnExactMatchRuleRow.holds Try.pinned (OpenSpec.ofChange fnExactMatchRuleWrong)

/-- 'laws.FnExactDomainsPartial': WHATEVER THE INPUT: true; the input reads as it did. -/
def fnExactDomainsPartialSpec : ChangeSpec := { name := "fnExactDomainsPartial", fn := fun _ => fun
  | [d1, d2] => { results := [.lit (.bool true)], args := [d1, d2] }
  | _ => none }
def fnExactDomainsPartialRow : OpenClaim := { program := "ytpjbfmifmikloaa", sum := "62626bea9a5a0256c6cb69e98ab5233790372f79b351e5fa7eafff7efe2e8acf", func := "loop.example/cuttingplanes/laws.FnExactDomainsPartial", spec := "fnExactDomainsPartial", unfollowed := true, recurses := true, apart := false }
def FnExactDomainsPartialSaid : Prop := fnExactDomainsPartialRow.holds Try.pinned (OpenSpec.ofChange fnExactDomainsPartialSpec)

/-- ITS FALSE NEIGHBOUR: 'it returns false'. Refute it at one input. -/
def fnExactDomainsPartialWrong : ChangeSpec := { name := "fnExactDomainsPartial", fn := fun _ => fun
  | [d1, d2] => { results := [.lit (.bool false)], args := [d1, d2] }
  | _ => none }
def FnExactDomainsPartialWrongFalsely : Prop := fnExactDomainsPartialRow.holds Try.pinned (OpenSpec.ofChange fnExactDomainsPartialWrong)

/-- 'laws.FnDomainsPartial': WHATEVER THE INPUT: true; the input reads as it did. -/
def fnDomainsPartialSpec : ChangeSpec := { name := "fnDomainsPartial", fn := fun _ => fun
  | [d] => { results := [.lit (.bool true)], args := [d] }
  | _ => none }
def fnDomainsPartialRow : OpenClaim := { program := "ytpjbfmifmikloaa", sum := "62626bea9a5a0256c6cb69e98ab5233790372f79b351e5fa7eafff7efe2e8acf", func := "loop.example/cuttingplanes/laws.FnDomainsPartial", spec := "fnDomainsPartial", unfollowed := true, recurses := true, apart := false }
def FnDomainsPartialSaid : Prop := fnDomainsPartialRow.holds Try.pinned (OpenSpec.ofChange fnDomainsPartialSpec)

/-- ITS FALSE NEIGHBOUR: 'it returns false'. Refute it at one input. -/
def fnDomainsPartialWrong : ChangeSpec := { name := "fnDomainsPartial", fn := fun _ => fun
  | [d] => { results := [.lit (.bool false)], args := [d] }
  | _ => none }
def FnDomainsPartialWrongFalsely : Prop := fnDomainsPartialRow.holds Try.pinned (OpenSpec.ofChange fnDomainsPartialWrong)

/-- 'laws.FnExactMinimizeModel': WHATEVER THE INPUT: true; the input reads as it did. -/
def fnExactMinimizeModelSpec : ChangeSpec := { name := "fnExactMinimizeModel", fn := fun _ => fun
  | [d1, d2] => { results := [.lit (.bool true)], args := [d1, d2] }
  | _ => none }
def fnExactMinimizeModelRow : OpenClaim := { program := "ytpjbfmifmikloaa", sum := "62626bea9a5a0256c6cb69e98ab5233790372f79b351e5fa7eafff7efe2e8acf", func := "loop.example/cuttingplanes/laws.FnExactMinimizeModel", spec := "fnExactMinimizeModel", unfollowed := true, recurses := true, apart := false }
def FnExactMinimizeModelSaid : Prop := fnExactMinimizeModelRow.holds Try.pinned (OpenSpec.ofChange fnExactMinimizeModelSpec)

/-- ITS FALSE NEIGHBOUR: 'it returns false'. Refute it at one input. -/
def fnExactMinimizeModelWrong : ChangeSpec := { name := "fnExactMinimizeModel", fn := fun _ => fun
  | [d1, d2] => { results := [.lit (.bool false)], args := [d1, d2] }
  | _ => none }
def FnExactMinimizeModelWrongFalsely : Prop := fnExactMinimizeModelRow.holds Try.pinned (OpenSpec.ofChange fnExactMinimizeModelWrong)

/- THE SECOND FORM. 'bulk': how many values and letters a reading holds, each counted each time it is reached (what is shared counts as often as it is met; a slice's spare places count too). A statement '..UptoSaid' is the law's where the arguments, and the package variables that the reading takes, are together of bulk at most 1048576: NARROWER than '..Said'. Prove '..Said' where nothing that the law and all that it calls make is longer than what came in: it says more and counts as full. Else prove '..UptoSaid'. A law counts once. -/
mutual
def uptoBulk {H : Type} : DataW H → Nat
  | .lit (.string bytes) => bytes.length + 1
  | .lit _ => 1
  | .nil => 1
  | .ptr d => uptoBulk d + 1
  | .slice elems spare => uptoBulkAll elems + uptoBulkAll spare + 1
  | .agg parts => uptoBulkAll parts + 1
  | .iface _ d => uptoBulk d + 1
  | .map entries => uptoBulkEntries entries + 1
  | .held _ => 1
def uptoBulkAll {H : Type} : List (DataW H) → Nat
  | [] => 0
  | d :: r => uptoBulk d + uptoBulkAll r
def uptoBulkEntries {H : Type} : List (Lit × DataW H) → Nat
  | [] => 0
  | x :: r => uptoBulkEntry x + uptoBulkEntries r
def uptoBulkEntry {H : Type} : Lit × DataW H → Nat
  | (.string bytes, d) => bytes.length + uptoBulk d + 1
  | (_, d) => uptoBulk d + 1
 end
def uptoSmall : (H : Type) → List (DataW H) → Bool := fun _ ds => decide (uptoBulkAll ds ≤ 1048576)
def OpenSpec.upto (s : _root_.Go.ChangeSpec) : _root_.Go.OpenSpec := { _root_.Go.OpenSpec.ofChange s with cond := some uptoSmall }

/-- 'laws.FnExactDomainsEmpty', WHERE WHAT IT READS IS OF BULK AT MOST 1048576: true; the input reads as it did. -/
def fnExactDomainsEmptyUptoRow : OpenClaim := { program := "ytpjbfmifmikloaa", sum := "62626bea9a5a0256c6cb69e98ab5233790372f79b351e5fa7eafff7efe2e8acf", func := "loop.example/cuttingplanes/laws.FnExactDomainsEmpty", spec := "fnExactDomainsEmpty", unfollowed := true, recurses := true, apart := false, narrowed := true }
def FnExactDomainsEmptyUptoSaid : Prop := fnExactDomainsEmptyUptoRow.holds Try.pinned (OpenSpec.upto fnExactDomainsEmptySpec)

/-- 'laws.FnMinimalCore', WHERE WHAT IT READS IS OF BULK AT MOST 1048576: true; the input reads as it did. -/
def fnMinimalCoreUptoRow : OpenClaim := { program := "ytpjbfmifmikloaa", sum := "62626bea9a5a0256c6cb69e98ab5233790372f79b351e5fa7eafff7efe2e8acf", func := "loop.example/cuttingplanes/laws.FnMinimalCore", spec := "fnMinimalCore", unfollowed := true, recurses := true, apart := false, narrowed := true }
def FnMinimalCoreUptoSaid : Prop := fnMinimalCoreUptoRow.holds Try.pinned (OpenSpec.upto fnMinimalCoreSpec)

/-- 'laws.FnExactPermuteCells', WHERE WHAT IT READS IS OF BULK AT MOST 1048576: true; the input reads as it did. -/
def fnExactPermuteCellsUptoRow : OpenClaim := { program := "ytpjbfmifmikloaa", sum := "62626bea9a5a0256c6cb69e98ab5233790372f79b351e5fa7eafff7efe2e8acf", func := "loop.example/cuttingplanes/laws.FnExactPermuteCells", spec := "fnExactPermuteCells", unfollowed := true, recurses := true, apart := false, narrowed := true }
def FnExactPermuteCellsUptoSaid : Prop := fnExactPermuteCellsUptoRow.holds Try.pinned (OpenSpec.upto fnExactPermuteCellsSpec)

/-- 'laws.FnPermuteCells', WHERE WHAT IT READS IS OF BULK AT MOST 1048576: true; the input reads as it did. -/
def fnPermuteCellsUptoRow : OpenClaim := { program := "ytpjbfmifmikloaa", sum := "62626bea9a5a0256c6cb69e98ab5233790372f79b351e5fa7eafff7efe2e8acf", func := "loop.example/cuttingplanes/laws.FnPermuteCells", spec := "fnPermuteCells", unfollowed := true, recurses := true, apart := false, narrowed := true }
def FnPermuteCellsUptoSaid : Prop := fnPermuteCellsUptoRow.holds Try.pinned (OpenSpec.upto fnPermuteCellsSpec)

/-- 'laws.FnExactCellsIn', WHERE WHAT IT READS IS OF BULK AT MOST 1048576: true; the input reads as it did. -/
def fnExactCellsInUptoRow : OpenClaim := { program := "ytpjbfmifmikloaa", sum := "62626bea9a5a0256c6cb69e98ab5233790372f79b351e5fa7eafff7efe2e8acf", func := "loop.example/cuttingplanes/laws.FnExactCellsIn", spec := "fnExactCellsIn", unfollowed := true, recurses := true, apart := false, narrowed := true }
def FnExactCellsInUptoSaid : Prop := fnExactCellsInUptoRow.holds Try.pinned (OpenSpec.upto fnExactCellsInSpec)

/-- 'laws.FnExactLowerBound', WHERE WHAT IT READS IS OF BULK AT MOST 1048576: true; the input reads as it did. -/
def fnExactLowerBoundUptoRow : OpenClaim := { program := "ytpjbfmifmikloaa", sum := "62626bea9a5a0256c6cb69e98ab5233790372f79b351e5fa7eafff7efe2e8acf", func := "loop.example/cuttingplanes/laws.FnExactLowerBound", spec := "fnExactLowerBound", unfollowed := true, recurses := true, apart := false, narrowed := true }
def FnExactLowerBoundUptoSaid : Prop := fnExactLowerBoundUptoRow.holds Try.pinned (OpenSpec.upto fnExactLowerBoundSpec)

/-- 'laws.FnExactPermuteModel', WHERE WHAT IT READS IS OF BULK AT MOST 1048576: true; the input reads as it did. -/
def fnExactPermuteModelUptoRow : OpenClaim := { program := "ytpjbfmifmikloaa", sum := "62626bea9a5a0256c6cb69e98ab5233790372f79b351e5fa7eafff7efe2e8acf", func := "loop.example/cuttingplanes/laws.FnExactPermuteModel", spec := "fnExactPermuteModel", unfollowed := true, recurses := true, apart := false, narrowed := true }
def FnExactPermuteModelUptoSaid : Prop := fnExactPermuteModelUptoRow.holds Try.pinned (OpenSpec.upto fnExactPermuteModelSpec)

/-- 'laws.FnMinimizeDouble', WHERE WHAT IT READS IS OF BULK AT MOST 1048576: true; the input reads as it did. -/
def fnMinimizeDoubleUptoRow : OpenClaim := { program := "ytpjbfmifmikloaa", sum := "62626bea9a5a0256c6cb69e98ab5233790372f79b351e5fa7eafff7efe2e8acf", func := "loop.example/cuttingplanes/laws.FnMinimizeDouble", spec := "fnMinimizeDouble", unfollowed := true, recurses := true, apart := false, narrowed := true }
def FnMinimizeDoubleUptoSaid : Prop := fnMinimizeDoubleUptoRow.holds Try.pinned (OpenSpec.upto fnMinimizeDoubleSpec)

/-- 'laws.FnExactMatchRule', WHERE WHAT IT READS IS OF BULK AT MOST 1048576: true; the input reads as it did. -/
def fnExactMatchRuleUptoRow : OpenClaim := { program := "ytpjbfmifmikloaa", sum := "62626bea9a5a0256c6cb69e98ab5233790372f79b351e5fa7eafff7efe2e8acf", func := "loop.example/cuttingplanes/laws.FnExactMatchRule", spec := "fnExactMatchRule", unfollowed := true, recurses := true, apart := false, narrowed := true }
def FnExactMatchRuleUptoSaid : Prop := fnExactMatchRuleUptoRow.holds Try.pinned (OpenSpec.upto fnExactMatchRuleSpec)

/-- 'laws.FnExactDomainsPartial', WHERE WHAT IT READS IS OF BULK AT MOST 1048576: true; the input reads as it did. -/
def fnExactDomainsPartialUptoRow : OpenClaim := { program := "ytpjbfmifmikloaa", sum := "62626bea9a5a0256c6cb69e98ab5233790372f79b351e5fa7eafff7efe2e8acf", func := "loop.example/cuttingplanes/laws.FnExactDomainsPartial", spec := "fnExactDomainsPartial", unfollowed := true, recurses := true, apart := false, narrowed := true }
def FnExactDomainsPartialUptoSaid : Prop := fnExactDomainsPartialUptoRow.holds Try.pinned (OpenSpec.upto fnExactDomainsPartialSpec)

/-- 'laws.FnDomainsPartial', WHERE WHAT IT READS IS OF BULK AT MOST 1048576: true; the input reads as it did. -/
def fnDomainsPartialUptoRow : OpenClaim := { program := "ytpjbfmifmikloaa", sum := "62626bea9a5a0256c6cb69e98ab5233790372f79b351e5fa7eafff7efe2e8acf", func := "loop.example/cuttingplanes/laws.FnDomainsPartial", spec := "fnDomainsPartial", unfollowed := true, recurses := true, apart := false, narrowed := true }
def FnDomainsPartialUptoSaid : Prop := fnDomainsPartialUptoRow.holds Try.pinned (OpenSpec.upto fnDomainsPartialSpec)

/-- 'laws.FnExactMinimizeModel', WHERE WHAT IT READS IS OF BULK AT MOST 1048576: true; the input reads as it did. -/
def fnExactMinimizeModelUptoRow : OpenClaim := { program := "ytpjbfmifmikloaa", sum := "62626bea9a5a0256c6cb69e98ab5233790372f79b351e5fa7eafff7efe2e8acf", func := "loop.example/cuttingplanes/laws.FnExactMinimizeModel", spec := "fnExactMinimizeModel", unfollowed := true, recurses := true, apart := false, narrowed := true }
def FnExactMinimizeModelUptoSaid : Prop := fnExactMinimizeModelUptoRow.holds Try.pinned (OpenSpec.upto fnExactMinimizeModelSpec)

end Rows
end Go.Proofs.Ytpjbfmifmikloaa
