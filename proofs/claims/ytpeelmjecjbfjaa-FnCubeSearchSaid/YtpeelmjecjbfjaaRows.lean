/-
  No cell of these rows narrows 'for every input' (looked for: loops, veiled, ifaces, maps, wideKeys, modest, calm, conditions, laid).
  DERIVED. THE GIVEN ROWS OF THIS SEAT. 12 by the template 'for every input the law returns true; each argument reads behind the call as it read before'; 0 by the template 'total and deterministic' (their statements: YtpeelmjecjbfjaaTotals.lean).
  GIVEN WITH THE SEED: the statements are not yours to turn. If you find one false, say at which input.
  Laid BY PROGRAM, IN A SANDBOX (cutbox-rows.mjs): the forced cells as the released guide's own fill.sh prints them over the translation 81a2109868c96999… (all of the seat's roots in one cut). By AI agents, Wed Nov 11 2026. No macro, syntax, notation, axiom, sorry.
-/
import Derived.Test.YtpeelmjecjbfjaaChecked
import GoSem.Claim
import GoSem.ClaimJoined
import GoSem.ClaimMapViews
import Derived.JoinedTies
import Derived.KernelRfl
namespace Go.Proofs.Ytpeelmjecjbfjaa
/- THE CELL 'sum', in the pinned program and in every row, IS THE sha256 OF THE DUMP (.gsa) THAT YtpeelmjecjbfjaaProg.lean LOADS. Nothing in Lean hashes anything: it is a label: what it is worth is what the hold of that sum in a sandbox is worth. -/
noncomputable def Try.pinned : Pinned := { name := "ytpeelmjecjbfjaa", sum := "81a2109868c96999c722e7269dd3e631cebf0b82b2107db74623333e7d6c3203", checked := Try.checked }
namespace Rows
def none {H : Type} : Left H := { results := [], args := [] }

/-- 'laws.FnAtMostConstraint': WHATEVER THE INPUT: true; the input reads as it did. -/
def fnAtMostConstraintSpec : ChangeSpec := { name := "fnAtMostConstraint", fn := fun _ => fun
  | [d1, d2] => { results := [.lit (.bool true)], args := [d1, d2] }
  | _ => none }
def fnAtMostConstraintRow : OpenClaim := { program := "ytpeelmjecjbfjaa", sum := "81a2109868c96999c722e7269dd3e631cebf0b82b2107db74623333e7d6c3203", func := "loop.example/cuttingplanes/laws.FnAtMostConstraint", spec := "fnAtMostConstraint", unfollowed := true, recurses := true, apart := false }
def FnAtMostConstraintSaid : Prop := fnAtMostConstraintRow.holds Try.pinned (OpenSpec.ofChange fnAtMostConstraintSpec)

/-- ITS FALSE NEIGHBOUR: 'it returns false'. Refute it at one input. -/
def fnAtMostConstraintWrong : ChangeSpec := { name := "fnAtMostConstraint", fn := fun _ => fun
  | [d1, d2] => { results := [.lit (.bool false)], args := [d1, d2] }
  | _ => none }
def FnAtMostConstraintWrongFalsely : Prop := fnAtMostConstraintRow.holds Try.pinned (OpenSpec.ofChange fnAtMostConstraintWrong)

/-- 'laws.FnExactAtMostConstraint': WHATEVER THE INPUT: true; the input reads as it did. -/
def fnExactAtMostConstraintSpec : ChangeSpec := { name := "fnExactAtMostConstraint", fn := fun _ => fun
  | [d1, d2, d3] => { results := [.lit (.bool true)], args := [d1, d2, d3] }
  | _ => none }
def fnExactAtMostConstraintRow : OpenClaim := { program := "ytpeelmjecjbfjaa", sum := "81a2109868c96999c722e7269dd3e631cebf0b82b2107db74623333e7d6c3203", func := "loop.example/cuttingplanes/laws.FnExactAtMostConstraint", spec := "fnExactAtMostConstraint", unfollowed := true, recurses := true, apart := false }
def FnExactAtMostConstraintSaid : Prop := fnExactAtMostConstraintRow.holds Try.pinned (OpenSpec.ofChange fnExactAtMostConstraintSpec)

/-- ITS FALSE NEIGHBOUR: 'it returns false'. Refute it at one input. -/
def fnExactAtMostConstraintWrong : ChangeSpec := { name := "fnExactAtMostConstraint", fn := fun _ => fun
  | [d1, d2, d3] => { results := [.lit (.bool false)], args := [d1, d2, d3] }
  | _ => none }
def FnExactAtMostConstraintWrongFalsely : Prop := fnExactAtMostConstraintRow.holds Try.pinned (OpenSpec.ofChange fnExactAtMostConstraintWrong)

/-- 'laws.FnPermuteModel': WHATEVER THE INPUT: true; the input reads as it did. -/
def fnPermuteModelSpec : ChangeSpec := { name := "fnPermuteModel", fn := fun _ => fun
  | [d] => { results := [.lit (.bool true)], args := [d] }
  | _ => none }
def fnPermuteModelRow : OpenClaim := { program := "ytpeelmjecjbfjaa", sum := "81a2109868c96999c722e7269dd3e631cebf0b82b2107db74623333e7d6c3203", func := "loop.example/cuttingplanes/laws.FnPermuteModel", spec := "fnPermuteModel", unfollowed := true, recurses := true, apart := false }
def FnPermuteModelSaid : Prop := fnPermuteModelRow.holds Try.pinned (OpenSpec.ofChange fnPermuteModelSpec)

/-- ITS FALSE NEIGHBOUR: 'it returns false'. Refute it at one input. -/
def fnPermuteModelWrong : ChangeSpec := { name := "fnPermuteModel", fn := fun _ => fun
  | [d] => { results := [.lit (.bool false)], args := [d] }
  | _ => none }
def FnPermuteModelWrongFalsely : Prop := fnPermuteModelRow.holds Try.pinned (OpenSpec.ofChange fnPermuteModelWrong)

/-- 'laws.FnExactBoundsRule': WHATEVER THE INPUT: true; the input reads as it did. -/
def fnExactBoundsRuleSpec : ChangeSpec := { name := "fnExactBoundsRule", fn := fun _ => fun
  | [d1, d2, d3] => { results := [.lit (.bool true)], args := [d1, d2, d3] }
  | _ => none }
def fnExactBoundsRuleRow : OpenClaim := { program := "ytpeelmjecjbfjaa", sum := "81a2109868c96999c722e7269dd3e631cebf0b82b2107db74623333e7d6c3203", func := "loop.example/cuttingplanes/laws.FnExactBoundsRule", spec := "fnExactBoundsRule", unfollowed := true, recurses := true, apart := false }
def FnExactBoundsRuleSaid : Prop := fnExactBoundsRuleRow.holds Try.pinned (OpenSpec.ofChange fnExactBoundsRuleSpec)

/-- ITS FALSE NEIGHBOUR: 'it returns false'. Refute it at one input. -/
def fnExactBoundsRuleWrong : ChangeSpec := { name := "fnExactBoundsRule", fn := fun _ => fun
  | [d1, d2, d3] => { results := [.lit (.bool false)], args := [d1, d2, d3] }
  | _ => none }
def FnExactBoundsRuleWrongFalsely : Prop := fnExactBoundsRuleRow.holds Try.pinned (OpenSpec.ofChange fnExactBoundsRuleWrong)

/-- 'laws.FnMinimizeModel': WHATEVER THE INPUT: true; the input reads as it did. -/
def fnMinimizeModelSpec : ChangeSpec := { name := "fnMinimizeModel", fn := fun _ => fun
  | [d] => { results := [.lit (.bool true)], args := [d] }
  | _ => none }
def fnMinimizeModelRow : OpenClaim := { program := "ytpeelmjecjbfjaa", sum := "81a2109868c96999c722e7269dd3e631cebf0b82b2107db74623333e7d6c3203", func := "loop.example/cuttingplanes/laws.FnMinimizeModel", spec := "fnMinimizeModel", unfollowed := true, recurses := true, apart := false }
def FnMinimizeModelSaid : Prop := fnMinimizeModelRow.holds Try.pinned (OpenSpec.ofChange fnMinimizeModelSpec)

/-- ITS FALSE NEIGHBOUR: 'it returns false'. Refute it at one input. -/
def fnMinimizeModelWrong : ChangeSpec := { name := "fnMinimizeModel", fn := fun _ => fun
  | [d] => { results := [.lit (.bool false)], args := [d] }
  | _ => none }
def FnMinimizeModelWrongFalsely : Prop := fnMinimizeModelRow.holds Try.pinned (OpenSpec.ofChange fnMinimizeModelWrong)

/-- 'laws.FnLowerBound': WHATEVER THE INPUT: true; the input reads as it did. -/
def fnLowerBoundSpec : ChangeSpec := { name := "fnLowerBound", fn := fun _ => fun
  | [d] => { results := [.lit (.bool true)], args := [d] }
  | _ => none }
def fnLowerBoundRow : OpenClaim := { program := "ytpeelmjecjbfjaa", sum := "81a2109868c96999c722e7269dd3e631cebf0b82b2107db74623333e7d6c3203", func := "loop.example/cuttingplanes/laws.FnLowerBound", spec := "fnLowerBound", unfollowed := true, recurses := true, apart := false }
def FnLowerBoundSaid : Prop := fnLowerBoundRow.holds Try.pinned (OpenSpec.ofChange fnLowerBoundSpec)

/-- ITS FALSE NEIGHBOUR: 'it returns false'. Refute it at one input. -/
def fnLowerBoundWrong : ChangeSpec := { name := "fnLowerBound", fn := fun _ => fun
  | [d] => { results := [.lit (.bool false)], args := [d] }
  | _ => none }
def FnLowerBoundWrongFalsely : Prop := fnLowerBoundRow.holds Try.pinned (OpenSpec.ofChange fnLowerBoundWrong)

/-- 'laws.FnExactLiftStep': WHATEVER THE INPUT: true; the input reads as it did. -/
def fnExactLiftStepSpec : ChangeSpec := { name := "fnExactLiftStep", fn := fun _ => fun
  | [d1, d2] => { results := [.lit (.bool true)], args := [d1, d2] }
  | _ => none }
def fnExactLiftStepRow : OpenClaim := { program := "ytpeelmjecjbfjaa", sum := "81a2109868c96999c722e7269dd3e631cebf0b82b2107db74623333e7d6c3203", func := "loop.example/cuttingplanes/laws.FnExactLiftStep", spec := "fnExactLiftStep", unfollowed := true, recurses := true, apart := false }
def FnExactLiftStepSaid : Prop := fnExactLiftStepRow.holds Try.pinned (OpenSpec.ofChange fnExactLiftStepSpec)

/-- ITS FALSE NEIGHBOUR: 'it returns false'. Refute it at one input. -/
def fnExactLiftStepWrong : ChangeSpec := { name := "fnExactLiftStep", fn := fun _ => fun
  | [d1, d2] => { results := [.lit (.bool false)], args := [d1, d2] }
  | _ => none }
def FnExactLiftStepWrongFalsely : Prop := fnExactLiftStepRow.holds Try.pinned (OpenSpec.ofChange fnExactLiftStepWrong)

/-- 'laws.FnLiftStep': WHATEVER THE INPUT: true; the input reads as it did. -/
def fnLiftStepSpec : ChangeSpec := { name := "fnLiftStep", fn := fun _ => fun
  | [d1, d2] => { results := [.lit (.bool true)], args := [d1, d2] }
  | _ => none }
def fnLiftStepRow : OpenClaim := { program := "ytpeelmjecjbfjaa", sum := "81a2109868c96999c722e7269dd3e631cebf0b82b2107db74623333e7d6c3203", func := "loop.example/cuttingplanes/laws.FnLiftStep", spec := "fnLiftStep", unfollowed := true, recurses := true, apart := false }
def FnLiftStepSaid : Prop := fnLiftStepRow.holds Try.pinned (OpenSpec.ofChange fnLiftStepSpec)

/-- ITS FALSE NEIGHBOUR: 'it returns false'. Refute it at one input. -/
def fnLiftStepWrong : ChangeSpec := { name := "fnLiftStep", fn := fun _ => fun
  | [d1, d2] => { results := [.lit (.bool false)], args := [d1, d2] }
  | _ => none }
def FnLiftStepWrongFalsely : Prop := fnLiftStepRow.holds Try.pinned (OpenSpec.ofChange fnLiftStepWrong)

/-- 'laws.FnCubeSearch': WHATEVER THE INPUT: true; the input reads as it did. -/
def fnCubeSearchSpec : ChangeSpec := { name := "fnCubeSearch", fn := fun _ => fun
  | [d] => { results := [.lit (.bool true)], args := [d] }
  | _ => none }
def fnCubeSearchRow : OpenClaim := { program := "ytpeelmjecjbfjaa", sum := "81a2109868c96999c722e7269dd3e631cebf0b82b2107db74623333e7d6c3203", func := "loop.example/cuttingplanes/laws.FnCubeSearch", spec := "fnCubeSearch", unfollowed := true, recurses := true, apart := false }
def FnCubeSearchSaid : Prop := fnCubeSearchRow.holds Try.pinned (OpenSpec.ofChange fnCubeSearchSpec)

/-- ITS FALSE NEIGHBOUR: 'it returns false'. Refute it at one input. -/
def fnCubeSearchWrong : ChangeSpec := { name := "fnCubeSearch", fn := fun _ => fun
  | [d] => { results := [.lit (.bool false)], args := [d] }
  | _ => none }
def FnCubeSearchWrongFalsely : Prop := fnCubeSearchRow.holds Try.pinned (OpenSpec.ofChange fnCubeSearchWrong)

/-- 'laws.FnExactMergeProofs': WHATEVER THE INPUT: true; the input reads as it did. -/
def fnExactMergeProofsSpec : ChangeSpec := { name := "fnExactMergeProofs", fn := fun _ => fun
  | [d1, d2] => { results := [.lit (.bool true)], args := [d1, d2] }
  | _ => none }
def fnExactMergeProofsRow : OpenClaim := { program := "ytpeelmjecjbfjaa", sum := "81a2109868c96999c722e7269dd3e631cebf0b82b2107db74623333e7d6c3203", func := "loop.example/cuttingplanes/laws.FnExactMergeProofs", spec := "fnExactMergeProofs", unfollowed := true, recurses := true, apart := false }
def FnExactMergeProofsSaid : Prop := fnExactMergeProofsRow.holds Try.pinned (OpenSpec.ofChange fnExactMergeProofsSpec)

/-- ITS FALSE NEIGHBOUR: 'it returns false'. Refute it at one input. -/
def fnExactMergeProofsWrong : ChangeSpec := { name := "fnExactMergeProofs", fn := fun _ => fun
  | [d1, d2] => { results := [.lit (.bool false)], args := [d1, d2] }
  | _ => none }
def FnExactMergeProofsWrongFalsely : Prop := fnExactMergeProofsRow.holds Try.pinned (OpenSpec.ofChange fnExactMergeProofsWrong)

/-- 'laws.FnCanonicalRule': WHATEVER THE INPUT: true; the input reads as it did. -/
def fnCanonicalRuleSpec : ChangeSpec := { name := "fnCanonicalRule", fn := fun _ => fun
  | [d] => { results := [.lit (.bool true)], args := [d] }
  | _ => none }
def fnCanonicalRuleRow : OpenClaim := { program := "ytpeelmjecjbfjaa", sum := "81a2109868c96999c722e7269dd3e631cebf0b82b2107db74623333e7d6c3203", func := "loop.example/cuttingplanes/laws.FnCanonicalRule", spec := "fnCanonicalRule", unfollowed := true, recurses := true, apart := false }
def FnCanonicalRuleSaid : Prop := fnCanonicalRuleRow.holds Try.pinned (OpenSpec.ofChange fnCanonicalRuleSpec)

/-- ITS FALSE NEIGHBOUR: 'it returns false'. Refute it at one input. -/
def fnCanonicalRuleWrong : ChangeSpec := { name := "fnCanonicalRule", fn := fun _ => fun
  | [d] => { results := [.lit (.bool false)], args := [d] }
  | _ => none }
def FnCanonicalRuleWrongFalsely : Prop := fnCanonicalRuleRow.holds Try.pinned (OpenSpec.ofChange fnCanonicalRuleWrong)

/-- 'laws.FnExactCanonicalRule': WHATEVER THE INPUT: true; the input reads as it did. -/
def fnExactCanonicalRuleSpec : ChangeSpec := { name := "fnExactCanonicalRule", fn := fun _ => fun
  | [d1, d2] => { results := [.lit (.bool true)], args := [d1, d2] }
  | _ => none }
def fnExactCanonicalRuleRow : OpenClaim := { program := "ytpeelmjecjbfjaa", sum := "81a2109868c96999c722e7269dd3e631cebf0b82b2107db74623333e7d6c3203", func := "loop.example/cuttingplanes/laws.FnExactCanonicalRule", spec := "fnExactCanonicalRule", unfollowed := true, recurses := true, apart := false }
def FnExactCanonicalRuleSaid : Prop := fnExactCanonicalRuleRow.holds Try.pinned (OpenSpec.ofChange fnExactCanonicalRuleSpec)

/-- ITS FALSE NEIGHBOUR: 'it returns false'. Refute it at one input. -/
def fnExactCanonicalRuleWrong : ChangeSpec := { name := "fnExactCanonicalRule", fn := fun _ => fun
  | [d1, d2] => { results := [.lit (.bool false)], args := [d1, d2] }
  | _ => none }
def FnExactCanonicalRuleWrongFalsely : Prop := fnExactCanonicalRuleRow.holds Try.pinned (OpenSpec.ofChange fnExactCanonicalRuleWrong)

/- THE SECOND FORM. 'bulk': how many values and letters a reading holds, each counted each time it is reached (what is shared counts as often as it is met; a slice's spare places count too). A statement '..UptoSaid' is the law's where the arguments, and the package variables that the reading takes, are together of bulk at most 1048576: NARROWER than '..Said'. Prove '..Said' where nothing that the law and all that it calls make is longer than what came in: it says more and counts as full. Else prove '..UptoSaid'. A law counts once. -/
mutual
def uptoBulk {H : Type} : DataW H → Nat
  | .lit (.string bytes) => bytes.length + 1
  | .lit _ => 1
  | .nil => 1
  | .ptr d => uptoBulk d + 1
  | .slice elems spare => uptoBulkAll elems + uptoBulkAll spare + 1
  | .agg parts => uptoBulkAll parts + 1
  | .iface _ d => uptoBulk d + 1
  | .map entries => uptoBulkEntries entries + 1
  | .held _ => 1
def uptoBulkAll {H : Type} : List (DataW H) → Nat
  | [] => 0
  | d :: r => uptoBulk d + uptoBulkAll r
def uptoBulkEntries {H : Type} : List (Lit × DataW H) → Nat
  | [] => 0
  | x :: r => uptoBulkEntry x + uptoBulkEntries r
def uptoBulkEntry {H : Type} : Lit × DataW H → Nat
  | (.string bytes, d) => bytes.length + uptoBulk d + 1
  | (_, d) => uptoBulk d + 1
 end
def uptoSmall : (H : Type) → List (DataW H) → Bool := fun _ ds => decide (uptoBulkAll ds ≤ 1048576)
def OpenSpec.upto (s : _root_.Go.ChangeSpec) : _root_.Go.OpenSpec := { _root_.Go.OpenSpec.ofChange s with cond := some uptoSmall }

/-- 'laws.FnAtMostConstraint', WHERE WHAT IT READS IS OF BULK AT MOST 1048576: true; the input reads as it did. -/
def fnAtMostConstraintUptoRow : OpenClaim := { program := "ytpeelmjecjbfjaa", sum := "81a2109868c96999c722e7269dd3e631cebf0b82b2107db74623333e7d6c3203", func := "loop.example/cuttingplanes/laws.FnAtMostConstraint", spec := "fnAtMostConstraint", unfollowed := true, recurses := true, apart := false, narrowed := true }
def FnAtMostConstraintUptoSaid : Prop := fnAtMostConstraintUptoRow.holds Try.pinned (OpenSpec.upto fnAtMostConstraintSpec)

/-- 'laws.FnExactAtMostConstraint', WHERE WHAT IT READS IS OF BULK AT MOST 1048576: true; the input reads as it did. -/
def fnExactAtMostConstraintUptoRow : OpenClaim := { program := "ytpeelmjecjbfjaa", sum := "81a2109868c96999c722e7269dd3e631cebf0b82b2107db74623333e7d6c3203", func := "loop.example/cuttingplanes/laws.FnExactAtMostConstraint", spec := "fnExactAtMostConstraint", unfollowed := true, recurses := true, apart := false, narrowed := true }
def FnExactAtMostConstraintUptoSaid : Prop := fnExactAtMostConstraintUptoRow.holds Try.pinned (OpenSpec.upto fnExactAtMostConstraintSpec)

/-- 'laws.FnPermuteModel', WHERE WHAT IT READS IS OF BULK AT MOST 1048576: true; the input reads as it did. -/
def fnPermuteModelUptoRow : OpenClaim := { program := "ytpeelmjecjbfjaa", sum := "81a2109868c96999c722e7269dd3e631cebf0b82b2107db74623333e7d6c3203", func := "loop.example/cuttingplanes/laws.FnPermuteModel", spec := "fnPermuteModel", unfollowed := true, recurses := true, apart := false, narrowed := true }
def FnPermuteModelUptoSaid : Prop := fnPermuteModelUptoRow.holds Try.pinned (OpenSpec.upto fnPermuteModelSpec)

/-- 'laws.FnExactBoundsRule', WHERE WHAT IT READS IS OF BULK AT MOST 1048576: true; the input reads as it did. -/
def fnExactBoundsRuleUptoRow : OpenClaim := { program := "ytpeelmjecjbfjaa", sum := "81a2109868c96999c722e7269dd3e631cebf0b82b2107db74623333e7d6c3203", func := "loop.example/cuttingplanes/laws.FnExactBoundsRule", spec := "fnExactBoundsRule", unfollowed := true, recurses := true, apart := false, narrowed := true }
def FnExactBoundsRuleUptoSaid : Prop := fnExactBoundsRuleUptoRow.holds Try.pinned (OpenSpec.upto fnExactBoundsRuleSpec)

/-- 'laws.FnMinimizeModel', WHERE WHAT IT READS IS OF BULK AT MOST 1048576: true; the input reads as it did. -/
def fnMinimizeModelUptoRow : OpenClaim := { program := "ytpeelmjecjbfjaa", sum := "81a2109868c96999c722e7269dd3e631cebf0b82b2107db74623333e7d6c3203", func := "loop.example/cuttingplanes/laws.FnMinimizeModel", spec := "fnMinimizeModel", unfollowed := true, recurses := true, apart := false, narrowed := true }
def FnMinimizeModelUptoSaid : Prop := fnMinimizeModelUptoRow.holds Try.pinned (OpenSpec.upto fnMinimizeModelSpec)

/-- 'laws.FnLowerBound', WHERE WHAT IT READS IS OF BULK AT MOST 1048576: true; the input reads as it did. -/
def fnLowerBoundUptoRow : OpenClaim := { program := "ytpeelmjecjbfjaa", sum := "81a2109868c96999c722e7269dd3e631cebf0b82b2107db74623333e7d6c3203", func := "loop.example/cuttingplanes/laws.FnLowerBound", spec := "fnLowerBound", unfollowed := true, recurses := true, apart := false, narrowed := true }
def FnLowerBoundUptoSaid : Prop := fnLowerBoundUptoRow.holds Try.pinned (OpenSpec.upto fnLowerBoundSpec)

/-- 'laws.FnExactLiftStep', WHERE WHAT IT READS IS OF BULK AT MOST 1048576: true; the input reads as it did. -/
def fnExactLiftStepUptoRow : OpenClaim := { program := "ytpeelmjecjbfjaa", sum := "81a2109868c96999c722e7269dd3e631cebf0b82b2107db74623333e7d6c3203", func := "loop.example/cuttingplanes/laws.FnExactLiftStep", spec := "fnExactLiftStep", unfollowed := true, recurses := true, apart := false, narrowed := true }
def FnExactLiftStepUptoSaid : Prop := fnExactLiftStepUptoRow.holds Try.pinned (OpenSpec.upto fnExactLiftStepSpec)

/-- 'laws.FnLiftStep', WHERE WHAT IT READS IS OF BULK AT MOST 1048576: true; the input reads as it did. -/
def fnLiftStepUptoRow : OpenClaim := { program := "ytpeelmjecjbfjaa", sum := "81a2109868c96999c722e7269dd3e631cebf0b82b2107db74623333e7d6c3203", func := "loop.example/cuttingplanes/laws.FnLiftStep", spec := "fnLiftStep", unfollowed := true, recurses := true, apart := false, narrowed := true }
def FnLiftStepUptoSaid : Prop := fnLiftStepUptoRow.holds Try.pinned (OpenSpec.upto fnLiftStepSpec)

/-- 'laws.FnCubeSearch', WHERE WHAT IT READS IS OF BULK AT MOST 1048576: true; the input reads as it did. -/
def fnCubeSearchUptoRow : OpenClaim := { program := "ytpeelmjecjbfjaa", sum := "81a2109868c96999c722e7269dd3e631cebf0b82b2107db74623333e7d6c3203", func := "loop.example/cuttingplanes/laws.FnCubeSearch", spec := "fnCubeSearch", unfollowed := true, recurses := true, apart := false, narrowed := true }
def FnCubeSearchUptoSaid : Prop := fnCubeSearchUptoRow.holds Try.pinned (OpenSpec.upto fnCubeSearchSpec)

/-- 'laws.FnExactMergeProofs', WHERE WHAT IT READS IS OF BULK AT MOST 1048576: true; the input reads as it did. -/
def fnExactMergeProofsUptoRow : OpenClaim := { program := "ytpeelmjecjbfjaa", sum := "81a2109868c96999c722e7269dd3e631cebf0b82b2107db74623333e7d6c3203", func := "loop.example/cuttingplanes/laws.FnExactMergeProofs", spec := "fnExactMergeProofs", unfollowed := true, recurses := true, apart := false, narrowed := true }
def FnExactMergeProofsUptoSaid : Prop := fnExactMergeProofsUptoRow.holds Try.pinned (OpenSpec.upto fnExactMergeProofsSpec)

/-- 'laws.FnCanonicalRule', WHERE WHAT IT READS IS OF BULK AT MOST 1048576: true; the input reads as it did. -/
def fnCanonicalRuleUptoRow : OpenClaim := { program := "ytpeelmjecjbfjaa", sum := "81a2109868c96999c722e7269dd3e631cebf0b82b2107db74623333e7d6c3203", func := "loop.example/cuttingplanes/laws.FnCanonicalRule", spec := "fnCanonicalRule", unfollowed := true, recurses := true, apart := false, narrowed := true }
def FnCanonicalRuleUptoSaid : Prop := fnCanonicalRuleUptoRow.holds Try.pinned (OpenSpec.upto fnCanonicalRuleSpec)

/-- 'laws.FnExactCanonicalRule', WHERE WHAT IT READS IS OF BULK AT MOST 1048576: true; the input reads as it did. -/
def fnExactCanonicalRuleUptoRow : OpenClaim := { program := "ytpeelmjecjbfjaa", sum := "81a2109868c96999c722e7269dd3e631cebf0b82b2107db74623333e7d6c3203", func := "loop.example/cuttingplanes/laws.FnExactCanonicalRule", spec := "fnExactCanonicalRule", unfollowed := true, recurses := true, apart := false, narrowed := true }
def FnExactCanonicalRuleUptoSaid : Prop := fnExactCanonicalRuleUptoRow.holds Try.pinned (OpenSpec.upto fnExactCanonicalRuleSpec)

end Rows
end Go.Proofs.Ytpeelmjecjbfjaa
