/-
  No cell of these rows narrows 'for every input' (looked for: loops, veiled, ifaces, maps, wideKeys, modest, calm, conditions, laid).
  DERIVED. THE GIVEN ROWS OF THIS SEAT. 12 by the template 'for every input the law returns true; each argument reads behind the call as it read before'; 0 by the template 'total and deterministic' (their statements: YtkipgkpekkjebaaTotals.lean).
  GIVEN WITH THE SEED: the statements are not yours to turn. If you find one false, say at which input.
  Laid BY PROGRAM, IN A SANDBOX (cutbox-rows.mjs): the forced cells as the released guide's own fill.sh prints them over the translation 18c62f559b254488… (all of the seat's roots in one cut). By AI agents, Wed Nov 11 2026. No macro, syntax, notation, axiom, sorry.
-/
import Derived.Test.YtkipgkpekkjebaaChecked
import GoSem.Claim
import GoSem.ClaimJoined
import GoSem.ClaimMapViews
import Derived.JoinedTies
import Derived.KernelRfl
namespace Go.Proofs.Ytkipgkpekkjebaa
/- THE CELL 'sum', in the pinned program and in every row, IS THE sha256 OF THE DUMP (.gsa) THAT YtkipgkpekkjebaaProg.lean LOADS. Nothing in Lean hashes anything: it is a label: what it is worth is what the hold of that sum in a sandbox is worth. -/
noncomputable def Try.pinned : Pinned := { name := "ytkipgkpekkjebaa", sum := "18c62f559b25448846b917f0515acd703de1ddcb8710f559a3298392448d8aa6", checked := Try.checked }
namespace Rows
def none {H : Type} : Left H := { results := [], args := [] }

/-- 'laws.FnExactCubeHolds': WHATEVER THE INPUT: true; the input reads as it did. -/
def fnExactCubeHoldsSpec : ChangeSpec := { name := "fnExactCubeHolds", fn := fun _ => fun
  | [d1, d2] => { results := [.lit (.bool true)], args := [d1, d2] }
  | _ => none }
def fnExactCubeHoldsRow : OpenClaim := { program := "ytkipgkpekkjebaa", sum := "18c62f559b25448846b917f0515acd703de1ddcb8710f559a3298392448d8aa6", func := "loop.example/cuttingplanes/laws.FnExactCubeHolds", spec := "fnExactCubeHolds", unfollowed := true, recurses := true, apart := false }
def FnExactCubeHoldsSaid : Prop := fnExactCubeHoldsRow.holds Try.pinned (OpenSpec.ofChange fnExactCubeHoldsSpec)

/-- ITS FALSE NEIGHBOUR: 'it returns false'. Refute it at one input. -/
def fnExactCubeHoldsWrong : ChangeSpec := { name := "fnExactCubeHolds", fn := fun _ => fun
  | [d1, d2] => { results := [.lit (.bool false)], args := [d1, d2] }
  | _ => none }
def FnExactCubeHoldsWrongFalsely : Prop := fnExactCubeHoldsRow.holds Try.pinned (OpenSpec.ofChange fnExactCubeHoldsWrong)

/-- 'laws.FnExactSplitCubes': WHATEVER THE INPUT: true; the input reads as it did. -/
def fnExactSplitCubesSpec : ChangeSpec := { name := "fnExactSplitCubes", fn := fun _ => fun
  | [d] => { results := [.lit (.bool true)], args := [d] }
  | _ => none }
def fnExactSplitCubesRow : OpenClaim := { program := "ytkipgkpekkjebaa", sum := "18c62f559b25448846b917f0515acd703de1ddcb8710f559a3298392448d8aa6", func := "loop.example/cuttingplanes/laws.FnExactSplitCubes", spec := "fnExactSplitCubes", apart := false }
def FnExactSplitCubesSaid : Prop := fnExactSplitCubesRow.holds Try.pinned (OpenSpec.ofChange fnExactSplitCubesSpec)

/-- ITS FALSE NEIGHBOUR: 'it returns false'. Refute it at one input. -/
def fnExactSplitCubesWrong : ChangeSpec := { name := "fnExactSplitCubes", fn := fun _ => fun
  | [d] => { results := [.lit (.bool false)], args := [d] }
  | _ => none }
def FnExactSplitCubesWrongFalsely : Prop := fnExactSplitCubesRow.holds Try.pinned (OpenSpec.ofChange fnExactSplitCubesWrong)

/-- 'laws.FnCubeHolds': WHATEVER THE INPUT: true; the input reads as it did. -/
def fnCubeHoldsSpec : ChangeSpec := { name := "fnCubeHolds", fn := fun _ => fun
  | [d] => { results := [.lit (.bool true)], args := [d] }
  | _ => none }
def fnCubeHoldsRow : OpenClaim := { program := "ytkipgkpekkjebaa", sum := "18c62f559b25448846b917f0515acd703de1ddcb8710f559a3298392448d8aa6", func := "loop.example/cuttingplanes/laws.FnCubeHolds", spec := "fnCubeHolds", unfollowed := true, recurses := true, apart := false }
def FnCubeHoldsSaid : Prop := fnCubeHoldsRow.holds Try.pinned (OpenSpec.ofChange fnCubeHoldsSpec)

/-- ITS FALSE NEIGHBOUR: 'it returns false'. Refute it at one input. -/
def fnCubeHoldsWrong : ChangeSpec := { name := "fnCubeHolds", fn := fun _ => fun
  | [d] => { results := [.lit (.bool false)], args := [d] }
  | _ => none }
def FnCubeHoldsWrongFalsely : Prop := fnCubeHoldsRow.holds Try.pinned (OpenSpec.ofChange fnCubeHoldsWrong)

/-- 'laws.FnSplitCubes': WHATEVER THE INPUT: true; the input reads as it did. -/
def fnSplitCubesSpec : ChangeSpec := { name := "fnSplitCubes", fn := fun _ => fun
  | [d1, d2] => { results := [.lit (.bool true)], args := [d1, d2] }
  | _ => none }
def fnSplitCubesRow : OpenClaim := { program := "ytkipgkpekkjebaa", sum := "18c62f559b25448846b917f0515acd703de1ddcb8710f559a3298392448d8aa6", func := "loop.example/cuttingplanes/laws.FnSplitCubes", spec := "fnSplitCubes", unfollowed := true, recurses := true, apart := false }
def FnSplitCubesSaid : Prop := fnSplitCubesRow.holds Try.pinned (OpenSpec.ofChange fnSplitCubesSpec)

/-- ITS FALSE NEIGHBOUR: 'it returns false'. Refute it at one input. -/
def fnSplitCubesWrong : ChangeSpec := { name := "fnSplitCubes", fn := fun _ => fun
  | [d1, d2] => { results := [.lit (.bool false)], args := [d1, d2] }
  | _ => none }
def FnSplitCubesWrongFalsely : Prop := fnSplitCubesRow.holds Try.pinned (OpenSpec.ofChange fnSplitCubesWrong)

/-- 'laws.FnViolationCount': WHATEVER THE INPUT: true; the input reads as it did. -/
def fnViolationCountSpec : ChangeSpec := { name := "fnViolationCount", fn := fun _ => fun
  | [d1, d2] => { results := [.lit (.bool true)], args := [d1, d2] }
  | _ => none }
def fnViolationCountRow : OpenClaim := { program := "ytkipgkpekkjebaa", sum := "18c62f559b25448846b917f0515acd703de1ddcb8710f559a3298392448d8aa6", func := "loop.example/cuttingplanes/laws.FnViolationCount", spec := "fnViolationCount", unfollowed := true, recurses := true, apart := false }
def FnViolationCountSaid : Prop := fnViolationCountRow.holds Try.pinned (OpenSpec.ofChange fnViolationCountSpec)

/-- ITS FALSE NEIGHBOUR: 'it returns false'. Refute it at one input. -/
def fnViolationCountWrong : ChangeSpec := { name := "fnViolationCount", fn := fun _ => fun
  | [d1, d2] => { results := [.lit (.bool false)], args := [d1, d2] }
  | _ => none }
def FnViolationCountWrongFalsely : Prop := fnViolationCountRow.holds Try.pinned (OpenSpec.ofChange fnViolationCountWrong)

/-- 'laws.FnExactViolationCount': WHATEVER THE INPUT: true; the input reads as it did. -/
def fnExactViolationCountSpec : ChangeSpec := { name := "fnExactViolationCount", fn := fun _ => fun
  | [d1, d2] => { results := [.lit (.bool true)], args := [d1, d2] }
  | _ => none }
def fnExactViolationCountRow : OpenClaim := { program := "ytkipgkpekkjebaa", sum := "18c62f559b25448846b917f0515acd703de1ddcb8710f559a3298392448d8aa6", func := "loop.example/cuttingplanes/laws.FnExactViolationCount", spec := "fnExactViolationCount", unfollowed := true, recurses := true, apart := false }
def FnExactViolationCountSaid : Prop := fnExactViolationCountRow.holds Try.pinned (OpenSpec.ofChange fnExactViolationCountSpec)

/-- ITS FALSE NEIGHBOUR: 'it returns false'. Refute it at one input. -/
def fnExactViolationCountWrong : ChangeSpec := { name := "fnExactViolationCount", fn := fun _ => fun
  | [d1, d2] => { results := [.lit (.bool false)], args := [d1, d2] }
  | _ => none }
def FnExactViolationCountWrongFalsely : Prop := fnExactViolationCountRow.holds Try.pinned (OpenSpec.ofChange fnExactViolationCountWrong)

/-- 'laws.FnFlipBest': WHATEVER THE INPUT: true; the input reads as it did. -/
def fnFlipBestSpec : ChangeSpec := { name := "fnFlipBest", fn := fun _ => fun
  | [d] => { results := [.lit (.bool true)], args := [d] }
  | _ => none }
def fnFlipBestRow : OpenClaim := { program := "ytkipgkpekkjebaa", sum := "18c62f559b25448846b917f0515acd703de1ddcb8710f559a3298392448d8aa6", func := "loop.example/cuttingplanes/laws.FnFlipBest", spec := "fnFlipBest", unfollowed := true, recurses := true, apart := false }
def FnFlipBestSaid : Prop := fnFlipBestRow.holds Try.pinned (OpenSpec.ofChange fnFlipBestSpec)

/-- ITS FALSE NEIGHBOUR: 'it returns false'. Refute it at one input. -/
def fnFlipBestWrong : ChangeSpec := { name := "fnFlipBest", fn := fun _ => fun
  | [d] => { results := [.lit (.bool false)], args := [d] }
  | _ => none }
def FnFlipBestWrongFalsely : Prop := fnFlipBestRow.holds Try.pinned (OpenSpec.ofChange fnFlipBestWrong)

/-- 'laws.FnSubProblem': WHATEVER THE INPUT: true; the input reads as it did. -/
def fnSubProblemSpec : ChangeSpec := { name := "fnSubProblem", fn := fun _ => fun
  | [d] => { results := [.lit (.bool true)], args := [d] }
  | _ => none }
def fnSubProblemRow : OpenClaim := { program := "ytkipgkpekkjebaa", sum := "18c62f559b25448846b917f0515acd703de1ddcb8710f559a3298392448d8aa6", func := "loop.example/cuttingplanes/laws.FnSubProblem", spec := "fnSubProblem", unfollowed := true, recurses := true, apart := false }
def FnSubProblemSaid : Prop := fnSubProblemRow.holds Try.pinned (OpenSpec.ofChange fnSubProblemSpec)

/-- ITS FALSE NEIGHBOUR: 'it returns false'. Refute it at one input. -/
def fnSubProblemWrong : ChangeSpec := { name := "fnSubProblem", fn := fun _ => fun
  | [d] => { results := [.lit (.bool false)], args := [d] }
  | _ => none }
def FnSubProblemWrongFalsely : Prop := fnSubProblemRow.holds Try.pinned (OpenSpec.ofChange fnSubProblemWrong)

/-- 'laws.FnExactSubProblem': WHATEVER THE INPUT: true; the input reads as it did. -/
def fnExactSubProblemSpec : ChangeSpec := { name := "fnExactSubProblem", fn := fun _ => fun
  | [d1, d2] => { results := [.lit (.bool true)], args := [d1, d2] }
  | _ => none }
def fnExactSubProblemRow : OpenClaim := { program := "ytkipgkpekkjebaa", sum := "18c62f559b25448846b917f0515acd703de1ddcb8710f559a3298392448d8aa6", func := "loop.example/cuttingplanes/laws.FnExactSubProblem", spec := "fnExactSubProblem", unfollowed := true, recurses := true, apart := false }
def FnExactSubProblemSaid : Prop := fnExactSubProblemRow.holds Try.pinned (OpenSpec.ofChange fnExactSubProblemSpec)

/-- ITS FALSE NEIGHBOUR: 'it returns false'. Refute it at one input. -/
def fnExactSubProblemWrong : ChangeSpec := { name := "fnExactSubProblem", fn := fun _ => fun
  | [d1, d2] => { results := [.lit (.bool false)], args := [d1, d2] }
  | _ => none }
def FnExactSubProblemWrongFalsely : Prop := fnExactSubProblemRow.holds Try.pinned (OpenSpec.ofChange fnExactSubProblemWrong)

/-- 'laws.FnExactFlipBest': WHATEVER THE INPUT: true; the input reads as it did. -/
def fnExactFlipBestSpec : ChangeSpec := { name := "fnExactFlipBest", fn := fun _ => fun
  | [d1, d2] => { results := [.lit (.bool true)], args := [d1, d2] }
  | _ => none }
def fnExactFlipBestRow : OpenClaim := { program := "ytkipgkpekkjebaa", sum := "18c62f559b25448846b917f0515acd703de1ddcb8710f559a3298392448d8aa6", func := "loop.example/cuttingplanes/laws.FnExactFlipBest", spec := "fnExactFlipBest", unfollowed := true, recurses := true, apart := false }
def FnExactFlipBestSaid : Prop := fnExactFlipBestRow.holds Try.pinned (OpenSpec.ofChange fnExactFlipBestSpec)

/-- ITS FALSE NEIGHBOUR: 'it returns false'. Refute it at one input. -/
def fnExactFlipBestWrong : ChangeSpec := { name := "fnExactFlipBest", fn := fun _ => fun
  | [d1, d2] => { results := [.lit (.bool false)], args := [d1, d2] }
  | _ => none }
def FnExactFlipBestWrongFalsely : Prop := fnExactFlipBestRow.holds Try.pinned (OpenSpec.ofChange fnExactFlipBestWrong)

/-- 'laws.FnExactCubeProblem': WHATEVER THE INPUT: true; the input reads as it did. -/
def fnExactCubeProblemSpec : ChangeSpec := { name := "fnExactCubeProblem", fn := fun _ => fun
  | [d1, d2] => { results := [.lit (.bool true)], args := [d1, d2] }
  | _ => none }
def fnExactCubeProblemRow : OpenClaim := { program := "ytkipgkpekkjebaa", sum := "18c62f559b25448846b917f0515acd703de1ddcb8710f559a3298392448d8aa6", func := "loop.example/cuttingplanes/laws.FnExactCubeProblem", spec := "fnExactCubeProblem", unfollowed := true, recurses := true, apart := false }
def FnExactCubeProblemSaid : Prop := fnExactCubeProblemRow.holds Try.pinned (OpenSpec.ofChange fnExactCubeProblemSpec)

/-- ITS FALSE NEIGHBOUR: 'it returns false'. Refute it at one input. -/
def fnExactCubeProblemWrong : ChangeSpec := { name := "fnExactCubeProblem", fn := fun _ => fun
  | [d1, d2] => { results := [.lit (.bool false)], args := [d1, d2] }
  | _ => none }
def FnExactCubeProblemWrongFalsely : Prop := fnExactCubeProblemRow.holds Try.pinned (OpenSpec.ofChange fnExactCubeProblemWrong)

/-- 'laws.FnCubeCount': WHATEVER THE INPUT: true; the input reads as it did. -/
def fnCubeCountSpec : ChangeSpec := { name := "fnCubeCount", fn := fun _ => fun
  | [d1, d2] => { results := [.lit (.bool true)], args := [d1, d2] }
  | _ => none }
def fnCubeCountRow : OpenClaim := { program := "ytkipgkpekkjebaa", sum := "18c62f559b25448846b917f0515acd703de1ddcb8710f559a3298392448d8aa6", func := "loop.example/cuttingplanes/laws.FnCubeCount", spec := "fnCubeCount", unfollowed := true, recurses := true, apart := false }
def FnCubeCountSaid : Prop := fnCubeCountRow.holds Try.pinned (OpenSpec.ofChange fnCubeCountSpec)

/-- ITS FALSE NEIGHBOUR: 'it returns false'. Refute it at one input. -/
def fnCubeCountWrong : ChangeSpec := { name := "fnCubeCount", fn := fun _ => fun
  | [d1, d2] => { results := [.lit (.bool false)], args := [d1, d2] }
  | _ => none }
def FnCubeCountWrongFalsely : Prop := fnCubeCountRow.holds Try.pinned (OpenSpec.ofChange fnCubeCountWrong)

/- THE SECOND FORM. 'bulk': how many values and letters a reading holds, each counted each time it is reached (what is shared counts as often as it is met; a slice's spare places count too). A statement '..UptoSaid' is the law's where the arguments, and the package variables that the reading takes, are together of bulk at most 1048576: NARROWER than '..Said'. Prove '..Said' where nothing that the law and all that it calls make is longer than what came in: it says more and counts as full. Else prove '..UptoSaid'. A law counts once. -/
mutual
def uptoBulk {H : Type} : DataW H → Nat
  | .lit (.string bytes) => bytes.length + 1
  | .lit _ => 1
  | .nil => 1
  | .ptr d => uptoBulk d + 1
  | .slice elems spare => uptoBulkAll elems + uptoBulkAll spare + 1
  | .agg parts => uptoBulkAll parts + 1
  | .iface _ d => uptoBulk d + 1
  | .map entries => uptoBulkEntries entries + 1
  | .held _ => 1
def uptoBulkAll {H : Type} : List (DataW H) → Nat
  | [] => 0
  | d :: r => uptoBulk d + uptoBulkAll r
def uptoBulkEntries {H : Type} : List (Lit × DataW H) → Nat
  | [] => 0
  | x :: r => uptoBulkEntry x + uptoBulkEntries r
def uptoBulkEntry {H : Type} : Lit × DataW H → Nat
  | (.string bytes, d) => bytes.length + uptoBulk d + 1
  | (_, d) => uptoBulk d + 1
 end
def uptoSmall : (H : Type) → List (DataW H) → Bool := fun _ ds => decide (uptoBulkAll ds ≤ 1048576)
def OpenSpec.upto (s : _root_.Go.ChangeSpec) : _root_.Go.OpenSpec := { _root_.Go.OpenSpec.ofChange s with cond := some uptoSmall }

/-- 'laws.FnExactCubeHolds', WHERE WHAT IT READS IS OF BULK AT MOST 1048576: true; the input reads as it did. -/
def fnExactCubeHoldsUptoRow : OpenClaim := { program := "ytkipgkpekkjebaa", sum := "18c62f559b25448846b917f0515acd703de1ddcb8710f559a3298392448d8aa6", func := "loop.example/cuttingplanes/laws.FnExactCubeHolds", spec := "fnExactCubeHolds", unfollowed := true, recurses := true, apart := false, narrowed := true }
def FnExactCubeHoldsUptoSaid : Prop := fnExactCubeHoldsUptoRow.holds Try.pinned (OpenSpec.upto fnExactCubeHoldsSpec)

/-- 'laws.FnExactSplitCubes', WHERE WHAT IT READS IS OF BULK AT MOST 1048576: true; the input reads as it did. -/
def fnExactSplitCubesUptoRow : OpenClaim := { program := "ytkipgkpekkjebaa", sum := "18c62f559b25448846b917f0515acd703de1ddcb8710f559a3298392448d8aa6", func := "loop.example/cuttingplanes/laws.FnExactSplitCubes", spec := "fnExactSplitCubes", apart := false, narrowed := true }
def FnExactSplitCubesUptoSaid : Prop := fnExactSplitCubesUptoRow.holds Try.pinned (OpenSpec.upto fnExactSplitCubesSpec)

/-- 'laws.FnCubeHolds', WHERE WHAT IT READS IS OF BULK AT MOST 1048576: true; the input reads as it did. -/
def fnCubeHoldsUptoRow : OpenClaim := { program := "ytkipgkpekkjebaa", sum := "18c62f559b25448846b917f0515acd703de1ddcb8710f559a3298392448d8aa6", func := "loop.example/cuttingplanes/laws.FnCubeHolds", spec := "fnCubeHolds", unfollowed := true, recurses := true, apart := false, narrowed := true }
def FnCubeHoldsUptoSaid : Prop := fnCubeHoldsUptoRow.holds Try.pinned (OpenSpec.upto fnCubeHoldsSpec)

/-- 'laws.FnSplitCubes', WHERE WHAT IT READS IS OF BULK AT MOST 1048576: true; the input reads as it did. -/
def fnSplitCubesUptoRow : OpenClaim := { program := "ytkipgkpekkjebaa", sum := "18c62f559b25448846b917f0515acd703de1ddcb8710f559a3298392448d8aa6", func := "loop.example/cuttingplanes/laws.FnSplitCubes", spec := "fnSplitCubes", unfollowed := true, recurses := true, apart := false, narrowed := true }
def FnSplitCubesUptoSaid : Prop := fnSplitCubesUptoRow.holds Try.pinned (OpenSpec.upto fnSplitCubesSpec)

/-- 'laws.FnViolationCount', WHERE WHAT IT READS IS OF BULK AT MOST 1048576: true; the input reads as it did. -/
def fnViolationCountUptoRow : OpenClaim := { program := "ytkipgkpekkjebaa", sum := "18c62f559b25448846b917f0515acd703de1ddcb8710f559a3298392448d8aa6", func := "loop.example/cuttingplanes/laws.FnViolationCount", spec := "fnViolationCount", unfollowed := true, recurses := true, apart := false, narrowed := true }
def FnViolationCountUptoSaid : Prop := fnViolationCountUptoRow.holds Try.pinned (OpenSpec.upto fnViolationCountSpec)

/-- 'laws.FnExactViolationCount', WHERE WHAT IT READS IS OF BULK AT MOST 1048576: true; the input reads as it did. -/
def fnExactViolationCountUptoRow : OpenClaim := { program := "ytkipgkpekkjebaa", sum := "18c62f559b25448846b917f0515acd703de1ddcb8710f559a3298392448d8aa6", func := "loop.example/cuttingplanes/laws.FnExactViolationCount", spec := "fnExactViolationCount", unfollowed := true, recurses := true, apart := false, narrowed := true }
def FnExactViolationCountUptoSaid : Prop := fnExactViolationCountUptoRow.holds Try.pinned (OpenSpec.upto fnExactViolationCountSpec)

/-- 'laws.FnFlipBest', WHERE WHAT IT READS IS OF BULK AT MOST 1048576: true; the input reads as it did. -/
def fnFlipBestUptoRow : OpenClaim := { program := "ytkipgkpekkjebaa", sum := "18c62f559b25448846b917f0515acd703de1ddcb8710f559a3298392448d8aa6", func := "loop.example/cuttingplanes/laws.FnFlipBest", spec := "fnFlipBest", unfollowed := true, recurses := true, apart := false, narrowed := true }
def FnFlipBestUptoSaid : Prop := fnFlipBestUptoRow.holds Try.pinned (OpenSpec.upto fnFlipBestSpec)

/-- 'laws.FnSubProblem', WHERE WHAT IT READS IS OF BULK AT MOST 1048576: true; the input reads as it did. -/
def fnSubProblemUptoRow : OpenClaim := { program := "ytkipgkpekkjebaa", sum := "18c62f559b25448846b917f0515acd703de1ddcb8710f559a3298392448d8aa6", func := "loop.example/cuttingplanes/laws.FnSubProblem", spec := "fnSubProblem", unfollowed := true, recurses := true, apart := false, narrowed := true }
def FnSubProblemUptoSaid : Prop := fnSubProblemUptoRow.holds Try.pinned (OpenSpec.upto fnSubProblemSpec)

/-- 'laws.FnExactSubProblem', WHERE WHAT IT READS IS OF BULK AT MOST 1048576: true; the input reads as it did. -/
def fnExactSubProblemUptoRow : OpenClaim := { program := "ytkipgkpekkjebaa", sum := "18c62f559b25448846b917f0515acd703de1ddcb8710f559a3298392448d8aa6", func := "loop.example/cuttingplanes/laws.FnExactSubProblem", spec := "fnExactSubProblem", unfollowed := true, recurses := true, apart := false, narrowed := true }
def FnExactSubProblemUptoSaid : Prop := fnExactSubProblemUptoRow.holds Try.pinned (OpenSpec.upto fnExactSubProblemSpec)

/-- 'laws.FnExactFlipBest', WHERE WHAT IT READS IS OF BULK AT MOST 1048576: true; the input reads as it did. -/
def fnExactFlipBestUptoRow : OpenClaim := { program := "ytkipgkpekkjebaa", sum := "18c62f559b25448846b917f0515acd703de1ddcb8710f559a3298392448d8aa6", func := "loop.example/cuttingplanes/laws.FnExactFlipBest", spec := "fnExactFlipBest", unfollowed := true, recurses := true, apart := false, narrowed := true }
def FnExactFlipBestUptoSaid : Prop := fnExactFlipBestUptoRow.holds Try.pinned (OpenSpec.upto fnExactFlipBestSpec)

/-- 'laws.FnExactCubeProblem', WHERE WHAT IT READS IS OF BULK AT MOST 1048576: true; the input reads as it did. -/
def fnExactCubeProblemUptoRow : OpenClaim := { program := "ytkipgkpekkjebaa", sum := "18c62f559b25448846b917f0515acd703de1ddcb8710f559a3298392448d8aa6", func := "loop.example/cuttingplanes/laws.FnExactCubeProblem", spec := "fnExactCubeProblem", unfollowed := true, recurses := true, apart := false, narrowed := true }
def FnExactCubeProblemUptoSaid : Prop := fnExactCubeProblemUptoRow.holds Try.pinned (OpenSpec.upto fnExactCubeProblemSpec)

/-- 'laws.FnCubeCount', WHERE WHAT IT READS IS OF BULK AT MOST 1048576: true; the input reads as it did. -/
def fnCubeCountUptoRow : OpenClaim := { program := "ytkipgkpekkjebaa", sum := "18c62f559b25448846b917f0515acd703de1ddcb8710f559a3298392448d8aa6", func := "loop.example/cuttingplanes/laws.FnCubeCount", spec := "fnCubeCount", unfollowed := true, recurses := true, apart := false, narrowed := true }
def FnCubeCountUptoSaid : Prop := fnCubeCountUptoRow.holds Try.pinned (OpenSpec.upto fnCubeCountSpec)

end Rows
end Go.Proofs.Ytkipgkpekkjebaa
