/-
  No cell of these rows narrows 'for every input' (looked for: loops, veiled, ifaces, maps, wideKeys, modest, calm, conditions, laid).
  DERIVED. THE GIVEN ROWS OF THIS SEAT. 12 by the template 'for every input the law returns true; each argument reads behind the call as it read before'; 0 by the template 'total and deterministic' (their statements: YtmpjmcflooeigaaTotals.lean).
  GIVEN WITH THE SEED: the statements are not yours to turn. If you find one false, say at which input.
  Laid BY PROGRAM, IN A SANDBOX (cutbox-rows.mjs): the forced cells as the released guide's own fill.sh prints them over the translation 5f8a8e7ab1017a06… (all of the seat's roots in one cut). By AI agents, Wed Nov 11 2026. No macro, syntax, notation, axiom, sorry.
-/
import Derived.Test.YtmpjmcflooeigaaChecked
import GoSem.Claim
import GoSem.ClaimJoined
import GoSem.ClaimMapViews
import Derived.JoinedTies
import Derived.KernelRfl
namespace Go.Proofs.Ytmpjmcflooeigaa
/- THE CELL 'sum', in the pinned program and in every row, IS THE sha256 OF THE DUMP (.gsa) THAT YtmpjmcflooeigaaProg.lean LOADS. Nothing in Lean hashes anything: it is a label: what it is worth is what the hold of that sum in a sandbox is worth. -/
noncomputable def Try.pinned : Pinned := { name := "ytmpjmcflooeigaa", sum := "5f8a8e7ab1017a06e28d4ac1151741fb4d7e7fd0008aeabc9258b702c3e54c03", checked := Try.checked }
namespace Rows
def none {H : Type} : Left H := { results := [], args := [] }

/-- 'laws.FnFlipBest': WHATEVER THE INPUT: true; the input reads as it did. -/
def fnFlipBestSpec : ChangeSpec := { name := "fnFlipBest", fn := fun _ => fun
  | [d] => { results := [.lit (.bool true)], args := [d] }
  | _ => none }
def fnFlipBestRow : OpenClaim := { program := "ytmpjmcflooeigaa", sum := "5f8a8e7ab1017a06e28d4ac1151741fb4d7e7fd0008aeabc9258b702c3e54c03", func := "loop.example/cuttingplanes/laws.FnFlipBest", spec := "fnFlipBest", unfollowed := true, recurses := true, apart := false }
def FnFlipBestSaid : Prop := fnFlipBestRow.holds Try.pinned (OpenSpec.ofChange fnFlipBestSpec)

/-- ITS FALSE NEIGHBOUR: 'it returns false'. Refute it at one input. -/
def fnFlipBestWrong : ChangeSpec := { name := "fnFlipBest", fn := fun _ => fun
  | [d] => { results := [.lit (.bool false)], args := [d] }
  | _ => none }
def FnFlipBestWrongFalsely : Prop := fnFlipBestRow.holds Try.pinned (OpenSpec.ofChange fnFlipBestWrong)

/-- 'laws.FnSubProblem': WHATEVER THE INPUT: true; the input reads as it did. -/
def fnSubProblemSpec : ChangeSpec := { name := "fnSubProblem", fn := fun _ => fun
  | [d] => { results := [.lit (.bool true)], args := [d] }
  | _ => none }
def fnSubProblemRow : OpenClaim := { program := "ytmpjmcflooeigaa", sum := "5f8a8e7ab1017a06e28d4ac1151741fb4d7e7fd0008aeabc9258b702c3e54c03", func := "loop.example/cuttingplanes/laws.FnSubProblem", spec := "fnSubProblem", unfollowed := true, recurses := true, apart := false }
def FnSubProblemSaid : Prop := fnSubProblemRow.holds Try.pinned (OpenSpec.ofChange fnSubProblemSpec)

/-- ITS FALSE NEIGHBOUR: 'it returns false'. Refute it at one input. -/
def fnSubProblemWrong : ChangeSpec := { name := "fnSubProblem", fn := fun _ => fun
  | [d] => { results := [.lit (.bool false)], args := [d] }
  | _ => none }
def FnSubProblemWrongFalsely : Prop := fnSubProblemRow.holds Try.pinned (OpenSpec.ofChange fnSubProblemWrong)

/-- 'laws.FnExactFlipBest': WHATEVER THE INPUT: true; the input reads as it did. -/
def fnExactFlipBestSpec : ChangeSpec := { name := "fnExactFlipBest", fn := fun _ => fun
  | [d1, d2] => { results := [.lit (.bool true)], args := [d1, d2] }
  | _ => none }
def fnExactFlipBestRow : OpenClaim := { program := "ytmpjmcflooeigaa", sum := "5f8a8e7ab1017a06e28d4ac1151741fb4d7e7fd0008aeabc9258b702c3e54c03", func := "loop.example/cuttingplanes/laws.FnExactFlipBest", spec := "fnExactFlipBest", unfollowed := true, recurses := true, apart := false }
def FnExactFlipBestSaid : Prop := fnExactFlipBestRow.holds Try.pinned (OpenSpec.ofChange fnExactFlipBestSpec)

/-- ITS FALSE NEIGHBOUR: 'it returns false'. Refute it at one input. -/
def fnExactFlipBestWrong : ChangeSpec := { name := "fnExactFlipBest", fn := fun _ => fun
  | [d1, d2] => { results := [.lit (.bool false)], args := [d1, d2] }
  | _ => none }
def FnExactFlipBestWrongFalsely : Prop := fnExactFlipBestRow.holds Try.pinned (OpenSpec.ofChange fnExactFlipBestWrong)

/-- 'laws.FnExactPermValid': WHATEVER THE INPUT: true; the input reads as it did. -/
def fnExactPermValidSpec : ChangeSpec := { name := "fnExactPermValid", fn := fun _ => fun
  | [d1, d2] => { results := [.lit (.bool true)], args := [d1, d2] }
  | _ => none }
def fnExactPermValidRow : OpenClaim := { program := "ytmpjmcflooeigaa", sum := "5f8a8e7ab1017a06e28d4ac1151741fb4d7e7fd0008aeabc9258b702c3e54c03", func := "loop.example/cuttingplanes/laws.FnExactPermValid", spec := "fnExactPermValid", unfollowed := true, recurses := true, apart := false }
def FnExactPermValidSaid : Prop := fnExactPermValidRow.holds Try.pinned (OpenSpec.ofChange fnExactPermValidSpec)

/-- ITS FALSE NEIGHBOUR: 'it returns false'. Refute it at one input. -/
def fnExactPermValidWrong : ChangeSpec := { name := "fnExactPermValid", fn := fun _ => fun
  | [d1, d2] => { results := [.lit (.bool false)], args := [d1, d2] }
  | _ => none }
def FnExactPermValidWrongFalsely : Prop := fnExactPermValidRow.holds Try.pinned (OpenSpec.ofChange fnExactPermValidWrong)

/-- 'laws.FnExactCoreMinimal': WHATEVER THE INPUT: true; the input reads as it did. -/
def fnExactCoreMinimalSpec : ChangeSpec := { name := "fnExactCoreMinimal", fn := fun _ => fun
  | [d] => { results := [.lit (.bool true)], args := [d] }
  | _ => none }
def fnExactCoreMinimalRow : OpenClaim := { program := "ytmpjmcflooeigaa", sum := "5f8a8e7ab1017a06e28d4ac1151741fb4d7e7fd0008aeabc9258b702c3e54c03", func := "loop.example/cuttingplanes/laws.FnExactCoreMinimal", spec := "fnExactCoreMinimal", unfollowed := true, recurses := true, apart := false }
def FnExactCoreMinimalSaid : Prop := fnExactCoreMinimalRow.holds Try.pinned (OpenSpec.ofChange fnExactCoreMinimalSpec)

/-- ITS FALSE NEIGHBOUR: 'it returns false'. Refute it at one input. -/
def fnExactCoreMinimalWrong : ChangeSpec := { name := "fnExactCoreMinimal", fn := fun _ => fun
  | [d] => { results := [.lit (.bool false)], args := [d] }
  | _ => none }
def FnExactCoreMinimalWrongFalsely : Prop := fnExactCoreMinimalRow.holds Try.pinned (OpenSpec.ofChange fnExactCoreMinimalWrong)

/-- 'laws.FnCubeProblem': WHATEVER THE INPUT: true; the input reads as it did. -/
def fnCubeProblemSpec : ChangeSpec := { name := "fnCubeProblem", fn := fun _ => fun
  | [d1, d2] => { results := [.lit (.bool true)], args := [d1, d2] }
  | _ => none }
def fnCubeProblemRow : OpenClaim := { program := "ytmpjmcflooeigaa", sum := "5f8a8e7ab1017a06e28d4ac1151741fb4d7e7fd0008aeabc9258b702c3e54c03", func := "loop.example/cuttingplanes/laws.FnCubeProblem", spec := "fnCubeProblem", unfollowed := true, recurses := true, apart := false }
def FnCubeProblemSaid : Prop := fnCubeProblemRow.holds Try.pinned (OpenSpec.ofChange fnCubeProblemSpec)

/-- ITS FALSE NEIGHBOUR: 'it returns false'. Refute it at one input. -/
def fnCubeProblemWrong : ChangeSpec := { name := "fnCubeProblem", fn := fun _ => fun
  | [d1, d2] => { results := [.lit (.bool false)], args := [d1, d2] }
  | _ => none }
def FnCubeProblemWrongFalsely : Prop := fnCubeProblemRow.holds Try.pinned (OpenSpec.ofChange fnCubeProblemWrong)

/-- 'laws.FnExactMaximalPart': WHATEVER THE INPUT: true; the input reads as it did. -/
def fnExactMaximalPartSpec : ChangeSpec := { name := "fnExactMaximalPart", fn := fun _ => fun
  | [d] => { results := [.lit (.bool true)], args := [d] }
  | _ => none }
def fnExactMaximalPartRow : OpenClaim := { program := "ytmpjmcflooeigaa", sum := "5f8a8e7ab1017a06e28d4ac1151741fb4d7e7fd0008aeabc9258b702c3e54c03", func := "loop.example/cuttingplanes/laws.FnExactMaximalPart", spec := "fnExactMaximalPart", unfollowed := true, recurses := true, apart := false }
def FnExactMaximalPartSaid : Prop := fnExactMaximalPartRow.holds Try.pinned (OpenSpec.ofChange fnExactMaximalPartSpec)

/-- ITS FALSE NEIGHBOUR: 'it returns false'. Refute it at one input. -/
def fnExactMaximalPartWrong : ChangeSpec := { name := "fnExactMaximalPart", fn := fun _ => fun
  | [d] => { results := [.lit (.bool false)], args := [d] }
  | _ => none }
def FnExactMaximalPartWrongFalsely : Prop := fnExactMaximalPartRow.holds Try.pinned (OpenSpec.ofChange fnExactMaximalPartWrong)

/-- 'laws.FnMaximalPart': WHATEVER THE INPUT: true; the input reads as it did. -/
def fnMaximalPartSpec : ChangeSpec := { name := "fnMaximalPart", fn := fun _ => fun
  | [d] => { results := [.lit (.bool true)], args := [d] }
  | _ => none }
def fnMaximalPartRow : OpenClaim := { program := "ytmpjmcflooeigaa", sum := "5f8a8e7ab1017a06e28d4ac1151741fb4d7e7fd0008aeabc9258b702c3e54c03", func := "loop.example/cuttingplanes/laws.FnMaximalPart", spec := "fnMaximalPart", unfollowed := true, recurses := true, apart := false }
def FnMaximalPartSaid : Prop := fnMaximalPartRow.holds Try.pinned (OpenSpec.ofChange fnMaximalPartSpec)

/-- ITS FALSE NEIGHBOUR: 'it returns false'. Refute it at one input. -/
def fnMaximalPartWrong : ChangeSpec := { name := "fnMaximalPart", fn := fun _ => fun
  | [d] => { results := [.lit (.bool false)], args := [d] }
  | _ => none }
def FnMaximalPartWrongFalsely : Prop := fnMaximalPartRow.holds Try.pinned (OpenSpec.ofChange fnMaximalPartWrong)

/-- 'laws.FnExactObjectiveValue': WHATEVER THE INPUT: true; the input reads as it did. -/
def fnExactObjectiveValueSpec : ChangeSpec := { name := "fnExactObjectiveValue", fn := fun _ => fun
  | [d1, d2, d3] => { results := [.lit (.bool true)], args := [d1, d2, d3] }
  | _ => none }
def fnExactObjectiveValueRow : OpenClaim := { program := "ytmpjmcflooeigaa", sum := "5f8a8e7ab1017a06e28d4ac1151741fb4d7e7fd0008aeabc9258b702c3e54c03", func := "loop.example/cuttingplanes/laws.FnExactObjectiveValue", spec := "fnExactObjectiveValue", unfollowed := true, recurses := true, apart := false }
def FnExactObjectiveValueSaid : Prop := fnExactObjectiveValueRow.holds Try.pinned (OpenSpec.ofChange fnExactObjectiveValueSpec)

/-- ITS FALSE NEIGHBOUR: 'it returns false'. Refute it at one input. -/
def fnExactObjectiveValueWrong : ChangeSpec := { name := "fnExactObjectiveValue", fn := fun _ => fun
  | [d1, d2, d3] => { results := [.lit (.bool false)], args := [d1, d2, d3] }
  | _ => none }
def FnExactObjectiveValueWrongFalsely : Prop := fnExactObjectiveValueRow.holds Try.pinned (OpenSpec.ofChange fnExactObjectiveValueWrong)

/-- 'laws.FnCoreMinimal': WHATEVER THE INPUT: true; the input reads as it did. -/
def fnCoreMinimalSpec : ChangeSpec := { name := "fnCoreMinimal", fn := fun _ => fun
  | [d] => { results := [.lit (.bool true)], args := [d] }
  | _ => none }
def fnCoreMinimalRow : OpenClaim := { program := "ytmpjmcflooeigaa", sum := "5f8a8e7ab1017a06e28d4ac1151741fb4d7e7fd0008aeabc9258b702c3e54c03", func := "loop.example/cuttingplanes/laws.FnCoreMinimal", spec := "fnCoreMinimal", unfollowed := true, recurses := true, apart := false }
def FnCoreMinimalSaid : Prop := fnCoreMinimalRow.holds Try.pinned (OpenSpec.ofChange fnCoreMinimalSpec)

/-- ITS FALSE NEIGHBOUR: 'it returns false'. Refute it at one input. -/
def fnCoreMinimalWrong : ChangeSpec := { name := "fnCoreMinimal", fn := fun _ => fun
  | [d] => { results := [.lit (.bool false)], args := [d] }
  | _ => none }
def FnCoreMinimalWrongFalsely : Prop := fnCoreMinimalRow.holds Try.pinned (OpenSpec.ofChange fnCoreMinimalWrong)

/-- 'laws.FnObjectiveValue': WHATEVER THE INPUT: true; the input reads as it did. -/
def fnObjectiveValueSpec : ChangeSpec := { name := "fnObjectiveValue", fn := fun _ => fun
  | [d] => { results := [.lit (.bool true)], args := [d] }
  | _ => none }
def fnObjectiveValueRow : OpenClaim := { program := "ytmpjmcflooeigaa", sum := "5f8a8e7ab1017a06e28d4ac1151741fb4d7e7fd0008aeabc9258b702c3e54c03", func := "loop.example/cuttingplanes/laws.FnObjectiveValue", spec := "fnObjectiveValue", unfollowed := true, recurses := true, apart := false }
def FnObjectiveValueSaid : Prop := fnObjectiveValueRow.holds Try.pinned (OpenSpec.ofChange fnObjectiveValueSpec)

/-- ITS FALSE NEIGHBOUR: 'it returns false'. Refute it at one input. -/
def fnObjectiveValueWrong : ChangeSpec := { name := "fnObjectiveValue", fn := fun _ => fun
  | [d] => { results := [.lit (.bool false)], args := [d] }
  | _ => none }
def FnObjectiveValueWrongFalsely : Prop := fnObjectiveValueRow.holds Try.pinned (OpenSpec.ofChange fnObjectiveValueWrong)

/-- 'laws.FnExactMinimalCore': WHATEVER THE INPUT: true; the input reads as it did. -/
def fnExactMinimalCoreSpec : ChangeSpec := { name := "fnExactMinimalCore", fn := fun _ => fun
  | [d] => { results := [.lit (.bool true)], args := [d] }
  | _ => none }
def fnExactMinimalCoreRow : OpenClaim := { program := "ytmpjmcflooeigaa", sum := "5f8a8e7ab1017a06e28d4ac1151741fb4d7e7fd0008aeabc9258b702c3e54c03", func := "loop.example/cuttingplanes/laws.FnExactMinimalCore", spec := "fnExactMinimalCore", unfollowed := true, recurses := true, apart := false }
def FnExactMinimalCoreSaid : Prop := fnExactMinimalCoreRow.holds Try.pinned (OpenSpec.ofChange fnExactMinimalCoreSpec)

/-- ITS FALSE NEIGHBOUR: 'it returns false'. Refute it at one input. -/
def fnExactMinimalCoreWrong : ChangeSpec := { name := "fnExactMinimalCore", fn := fun _ => fun
  | [d] => { results := [.lit (.bool false)], args := [d] }
  | _ => none }
def FnExactMinimalCoreWrongFalsely : Prop := fnExactMinimalCoreRow.holds Try.pinned (OpenSpec.ofChange fnExactMinimalCoreWrong)

/- THE SECOND FORM. 'bulk': how many values and letters a reading holds, each counted each time it is reached (what is shared counts as often as it is met; a slice's spare places count too). A statement '..UptoSaid' is the law's where the arguments, and the package variables that the reading takes, are together of bulk at most 1048576: NARROWER than '..Said'. Prove '..Said' where nothing that the law and all that it calls make is longer than what came in: it says more and counts as full. Else prove '..UptoSaid'. A law counts once. -/
mutual
def uptoBulk {H : Type} : DataW H → Nat
  | .lit (.string bytes) => bytes.length + 1
  | .lit _ => 1
  | .nil => 1
  | .ptr d => uptoBulk d + 1
  | .slice elems spare => uptoBulkAll elems + uptoBulkAll spare + 1
  | .agg parts => uptoBulkAll parts + 1
  | .iface _ d => uptoBulk d + 1
  | .map entries => uptoBulkEntries entries + 1
  | .held _ => 1
def uptoBulkAll {H : Type} : List (DataW H) → Nat
  | [] => 0
  | d :: r => uptoBulk d + uptoBulkAll r
def uptoBulkEntries {H : Type} : List (Lit × DataW H) → Nat
  | [] => 0
  | x :: r => uptoBulkEntry x + uptoBulkEntries r
def uptoBulkEntry {H : Type} : Lit × DataW H → Nat
  | (.string bytes, d) => bytes.length + uptoBulk d + 1
  | (_, d) => uptoBulk d + 1
 end
def uptoSmall : (H : Type) → List (DataW H) → Bool := fun _ ds => decide (uptoBulkAll ds ≤ 1048576)
def OpenSpec.upto (s : _root_.Go.ChangeSpec) : _root_.Go.OpenSpec := { _root_.Go.OpenSpec.ofChange s with cond := some uptoSmall }

/-- 'laws.FnFlipBest', WHERE WHAT IT READS IS OF BULK AT MOST 1048576: true; the input reads as it did. -/
def fnFlipBestUptoRow : OpenClaim := { program := "ytmpjmcflooeigaa", sum := "5f8a8e7ab1017a06e28d4ac1151741fb4d7e7fd0008aeabc9258b702c3e54c03", func := "loop.example/cuttingplanes/laws.FnFlipBest", spec := "fnFlipBest", unfollowed := true, recurses := true, apart := false, narrowed := true }
def FnFlipBestUptoSaid : Prop := fnFlipBestUptoRow.holds Try.pinned (OpenSpec.upto fnFlipBestSpec)

/-- 'laws.FnSubProblem', WHERE WHAT IT READS IS OF BULK AT MOST 1048576: true; the input reads as it did. -/
def fnSubProblemUptoRow : OpenClaim := { program := "ytmpjmcflooeigaa", sum := "5f8a8e7ab1017a06e28d4ac1151741fb4d7e7fd0008aeabc9258b702c3e54c03", func := "loop.example/cuttingplanes/laws.FnSubProblem", spec := "fnSubProblem", unfollowed := true, recurses := true, apart := false, narrowed := true }
def FnSubProblemUptoSaid : Prop := fnSubProblemUptoRow.holds Try.pinned (OpenSpec.upto fnSubProblemSpec)

/-- 'laws.FnExactFlipBest', WHERE WHAT IT READS IS OF BULK AT MOST 1048576: true; the input reads as it did. -/
def fnExactFlipBestUptoRow : OpenClaim := { program := "ytmpjmcflooeigaa", sum := "5f8a8e7ab1017a06e28d4ac1151741fb4d7e7fd0008aeabc9258b702c3e54c03", func := "loop.example/cuttingplanes/laws.FnExactFlipBest", spec := "fnExactFlipBest", unfollowed := true, recurses := true, apart := false, narrowed := true }
def FnExactFlipBestUptoSaid : Prop := fnExactFlipBestUptoRow.holds Try.pinned (OpenSpec.upto fnExactFlipBestSpec)

/-- 'laws.FnExactPermValid', WHERE WHAT IT READS IS OF BULK AT MOST 1048576: true; the input reads as it did. -/
def fnExactPermValidUptoRow : OpenClaim := { program := "ytmpjmcflooeigaa", sum := "5f8a8e7ab1017a06e28d4ac1151741fb4d7e7fd0008aeabc9258b702c3e54c03", func := "loop.example/cuttingplanes/laws.FnExactPermValid", spec := "fnExactPermValid", unfollowed := true, recurses := true, apart := false, narrowed := true }
def FnExactPermValidUptoSaid : Prop := fnExactPermValidUptoRow.holds Try.pinned (OpenSpec.upto fnExactPermValidSpec)

/-- 'laws.FnExactCoreMinimal', WHERE WHAT IT READS IS OF BULK AT MOST 1048576: true; the input reads as it did. -/
def fnExactCoreMinimalUptoRow : OpenClaim := { program := "ytmpjmcflooeigaa", sum := "5f8a8e7ab1017a06e28d4ac1151741fb4d7e7fd0008aeabc9258b702c3e54c03", func := "loop.example/cuttingplanes/laws.FnExactCoreMinimal", spec := "fnExactCoreMinimal", unfollowed := true, recurses := true, apart := false, narrowed := true }
def FnExactCoreMinimalUptoSaid : Prop := fnExactCoreMinimalUptoRow.holds Try.pinned (OpenSpec.upto fnExactCoreMinimalSpec)

/-- 'laws.FnCubeProblem', WHERE WHAT IT READS IS OF BULK AT MOST 1048576: true; the input reads as it did. -/
def fnCubeProblemUptoRow : OpenClaim := { program := "ytmpjmcflooeigaa", sum := "5f8a8e7ab1017a06e28d4ac1151741fb4d7e7fd0008aeabc9258b702c3e54c03", func := "loop.example/cuttingplanes/laws.FnCubeProblem", spec := "fnCubeProblem", unfollowed := true, recurses := true, apart := false, narrowed := true }
def FnCubeProblemUptoSaid : Prop := fnCubeProblemUptoRow.holds Try.pinned (OpenSpec.upto fnCubeProblemSpec)

/-- 'laws.FnExactMaximalPart', WHERE WHAT IT READS IS OF BULK AT MOST 1048576: true; the input reads as it did. -/
def fnExactMaximalPartUptoRow : OpenClaim := { program := "ytmpjmcflooeigaa", sum := "5f8a8e7ab1017a06e28d4ac1151741fb4d7e7fd0008aeabc9258b702c3e54c03", func := "loop.example/cuttingplanes/laws.FnExactMaximalPart", spec := "fnExactMaximalPart", unfollowed := true, recurses := true, apart := false, narrowed := true }
def FnExactMaximalPartUptoSaid : Prop := fnExactMaximalPartUptoRow.holds Try.pinned (OpenSpec.upto fnExactMaximalPartSpec)

/-- 'laws.FnMaximalPart', WHERE WHAT IT READS IS OF BULK AT MOST 1048576: true; the input reads as it did. -/
def fnMaximalPartUptoRow : OpenClaim := { program := "ytmpjmcflooeigaa", sum := "5f8a8e7ab1017a06e28d4ac1151741fb4d7e7fd0008aeabc9258b702c3e54c03", func := "loop.example/cuttingplanes/laws.FnMaximalPart", spec := "fnMaximalPart", unfollowed := true, recurses := true, apart := false, narrowed := true }
def FnMaximalPartUptoSaid : Prop := fnMaximalPartUptoRow.holds Try.pinned (OpenSpec.upto fnMaximalPartSpec)

/-- 'laws.FnExactObjectiveValue', WHERE WHAT IT READS IS OF BULK AT MOST 1048576: true; the input reads as it did. -/
def fnExactObjectiveValueUptoRow : OpenClaim := { program := "ytmpjmcflooeigaa", sum := "5f8a8e7ab1017a06e28d4ac1151741fb4d7e7fd0008aeabc9258b702c3e54c03", func := "loop.example/cuttingplanes/laws.FnExactObjectiveValue", spec := "fnExactObjectiveValue", unfollowed := true, recurses := true, apart := false, narrowed := true }
def FnExactObjectiveValueUptoSaid : Prop := fnExactObjectiveValueUptoRow.holds Try.pinned (OpenSpec.upto fnExactObjectiveValueSpec)

/-- 'laws.FnCoreMinimal', WHERE WHAT IT READS IS OF BULK AT MOST 1048576: true; the input reads as it did. -/
def fnCoreMinimalUptoRow : OpenClaim := { program := "ytmpjmcflooeigaa", sum := "5f8a8e7ab1017a06e28d4ac1151741fb4d7e7fd0008aeabc9258b702c3e54c03", func := "loop.example/cuttingplanes/laws.FnCoreMinimal", spec := "fnCoreMinimal", unfollowed := true, recurses := true, apart := false, narrowed := true }
def FnCoreMinimalUptoSaid : Prop := fnCoreMinimalUptoRow.holds Try.pinned (OpenSpec.upto fnCoreMinimalSpec)

/-- 'laws.FnObjectiveValue', WHERE WHAT IT READS IS OF BULK AT MOST 1048576: true; the input reads as it did. -/
def fnObjectiveValueUptoRow : OpenClaim := { program := "ytmpjmcflooeigaa", sum := "5f8a8e7ab1017a06e28d4ac1151741fb4d7e7fd0008aeabc9258b702c3e54c03", func := "loop.example/cuttingplanes/laws.FnObjectiveValue", spec := "fnObjectiveValue", unfollowed := true, recurses := true, apart := false, narrowed := true }
def FnObjectiveValueUptoSaid : Prop := fnObjectiveValueUptoRow.holds Try.pinned (OpenSpec.upto fnObjectiveValueSpec)

/-- 'laws.FnExactMinimalCore', WHERE WHAT IT READS IS OF BULK AT MOST 1048576: true; the input reads as it did. -/
def fnExactMinimalCoreUptoRow : OpenClaim := { program := "ytmpjmcflooeigaa", sum := "5f8a8e7ab1017a06e28d4ac1151741fb4d7e7fd0008aeabc9258b702c3e54c03", func := "loop.example/cuttingplanes/laws.FnExactMinimalCore", spec := "fnExactMinimalCore", unfollowed := true, recurses := true, apart := false, narrowed := true }
def FnExactMinimalCoreUptoSaid : Prop := fnExactMinimalCoreUptoRow.holds Try.pinned (OpenSpec.upto fnExactMinimalCoreSpec)

end Rows
end Go.Proofs.Ytmpjmcflooeigaa
