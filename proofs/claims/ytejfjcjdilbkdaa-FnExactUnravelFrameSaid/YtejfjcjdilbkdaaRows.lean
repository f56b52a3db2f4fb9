/-
  No cell of these rows narrows 'for every input' (looked for: loops, veiled, ifaces, maps, wideKeys, modest, calm, conditions, laid).
  DERIVED. THE GIVEN ROWS OF THIS SEAT. 12 by the template 'for every input the law returns true; each argument reads behind the call as it read before'; 0 by the template 'total and deterministic' (their statements: YtejfjcjdilbkdaaTotals.lean).
  GIVEN WITH THE SEED: the statements are not yours to turn. If you find one false, say at which input.
  Laid BY PROGRAM, IN A SANDBOX (cutbox-rows.mjs): the forced cells as the released guide's own fill.sh prints them over the translation 1cdea260a93c9f4c… (all of the seat's roots in one cut). By AI agents, Wed Nov 11 2026. No macro, syntax, notation, axiom, sorry.
-/
import Derived.Test.YtejfjcjdilbkdaaChecked
import GoSem.Claim
import GoSem.ClaimJoined
import GoSem.ClaimMapViews
import Derived.JoinedTies
import Derived.KernelRfl
namespace Go.Proofs.Ytejfjcjdilbkdaa
/- THE CELL 'sum', in the pinned program and in every row, IS THE sha256 OF THE DUMP (.gsa) THAT YtejfjcjdilbkdaaProg.lean LOADS. Nothing in Lean hashes anything: it is a label: what it is worth is what the hold of that sum in a sandbox is worth. -/
noncomputable def Try.pinned : Pinned := { name := "ytejfjcjdilbkdaa", sum := "1cdea260a93c9f4cb6066d7d57420899ce5cb867f569c3cd45d5687908ce38a0", checked := Try.checked }
namespace Rows
def none {H : Type} : Left H := { results := [], args := [] }

/-- 'laws.FnExactIsCongruence': WHATEVER THE INPUT: true; the input reads as it did. -/
def fnExactIsCongruenceSpec : ChangeSpec := { name := "fnExactIsCongruence", fn := fun _ => fun
  | [d1, d2] => { results := [.lit (.bool true)], args := [d1, d2] }
  | _ => none }
def fnExactIsCongruenceRow : OpenClaim := { program := "ytejfjcjdilbkdaa", sum := "1cdea260a93c9f4cb6066d7d57420899ce5cb867f569c3cd45d5687908ce38a0", func := "loop.example/g01089/laws.FnExactIsCongruence", spec := "fnExactIsCongruence", unfollowed := true, recurses := true, apart := false }
def FnExactIsCongruenceSaid : Prop := fnExactIsCongruenceRow.holds Try.pinned (OpenSpec.ofChange fnExactIsCongruenceSpec)

/-- ITS FALSE NEIGHBOUR: 'it returns false'. Refute it at one input. -/
def fnExactIsCongruenceWrong : ChangeSpec := { name := "fnExactIsCongruence", fn := fun _ => fun
  | [d1, d2] => { results := [.lit (.bool false)], args := [d1, d2] }
  | _ => none }
def FnExactIsCongruenceWrongFalsely : Prop := fnExactIsCongruenceRow.holds Try.pinned (OpenSpec.ofChange fnExactIsCongruenceWrong)

/-- 'laws.FnExactSumModels': WHATEVER THE INPUT: true; the input reads as it did. -/
def fnExactSumModelsSpec : ChangeSpec := { name := "fnExactSumModels", fn := fun _ => fun
  | [d1, d2] => { results := [.lit (.bool true)], args := [d1, d2] }
  | _ => none }
def fnExactSumModelsRow : OpenClaim := { program := "ytejfjcjdilbkdaa", sum := "1cdea260a93c9f4cb6066d7d57420899ce5cb867f569c3cd45d5687908ce38a0", func := "loop.example/g01089/laws.FnExactSumModels", spec := "fnExactSumModels", unfollowed := true, recurses := true, apart := false }
def FnExactSumModelsSaid : Prop := fnExactSumModelsRow.holds Try.pinned (OpenSpec.ofChange fnExactSumModelsSpec)

/-- ITS FALSE NEIGHBOUR: 'it returns false'. Refute it at one input. -/
def fnExactSumModelsWrong : ChangeSpec := { name := "fnExactSumModels", fn := fun _ => fun
  | [d1, d2] => { results := [.lit (.bool false)], args := [d1, d2] }
  | _ => none }
def FnExactSumModelsWrongFalsely : Prop := fnExactSumModelsRow.holds Try.pinned (OpenSpec.ofChange fnExactSumModelsWrong)

/-- 'laws.FnExactQuotientFrame': WHATEVER THE INPUT: true; the input reads as it did. -/
def fnExactQuotientFrameSpec : ChangeSpec := { name := "fnExactQuotientFrame", fn := fun _ => fun
  | [d1, d2] => { results := [.lit (.bool true)], args := [d1, d2] }
  | _ => none }
def fnExactQuotientFrameRow : OpenClaim := { program := "ytejfjcjdilbkdaa", sum := "1cdea260a93c9f4cb6066d7d57420899ce5cb867f569c3cd45d5687908ce38a0", func := "loop.example/g01089/laws.FnExactQuotientFrame", spec := "fnExactQuotientFrame", unfollowed := true, recurses := true, apart := false }
def FnExactQuotientFrameSaid : Prop := fnExactQuotientFrameRow.holds Try.pinned (OpenSpec.ofChange fnExactQuotientFrameSpec)

/-- ITS FALSE NEIGHBOUR: 'it returns false'. Refute it at one input. -/
def fnExactQuotientFrameWrong : ChangeSpec := { name := "fnExactQuotientFrame", fn := fun _ => fun
  | [d1, d2] => { results := [.lit (.bool false)], args := [d1, d2] }
  | _ => none }
def FnExactQuotientFrameWrongFalsely : Prop := fnExactQuotientFrameRow.holds Try.pinned (OpenSpec.ofChange fnExactQuotientFrameWrong)

/-- 'laws.FnExactPartOfModel': WHATEVER THE INPUT: true; the input reads as it did. -/
def fnExactPartOfModelSpec : ChangeSpec := { name := "fnExactPartOfModel", fn := fun _ => fun
  | [d1, d2] => { results := [.lit (.bool true)], args := [d1, d2] }
  | _ => none }
def fnExactPartOfModelRow : OpenClaim := { program := "ytejfjcjdilbkdaa", sum := "1cdea260a93c9f4cb6066d7d57420899ce5cb867f569c3cd45d5687908ce38a0", func := "loop.example/g01089/laws.FnExactPartOfModel", spec := "fnExactPartOfModel", unfollowed := true, recurses := true, apart := false }
def FnExactPartOfModelSaid : Prop := fnExactPartOfModelRow.holds Try.pinned (OpenSpec.ofChange fnExactPartOfModelSpec)

/-- ITS FALSE NEIGHBOUR: 'it returns false'. Refute it at one input. -/
def fnExactPartOfModelWrong : ChangeSpec := { name := "fnExactPartOfModel", fn := fun _ => fun
  | [d1, d2] => { results := [.lit (.bool false)], args := [d1, d2] }
  | _ => none }
def FnExactPartOfModelWrongFalsely : Prop := fnExactPartOfModelRow.holds Try.pinned (OpenSpec.ofChange fnExactPartOfModelWrong)

/-- 'laws.FnExactModalQuotient': WHATEVER THE INPUT: true; the input reads as it did. -/
def fnExactModalQuotientSpec : ChangeSpec := { name := "fnExactModalQuotient", fn := fun _ => fun
  | [d1, d2] => { results := [.lit (.bool true)], args := [d1, d2] }
  | _ => none }
def fnExactModalQuotientRow : OpenClaim := { program := "ytejfjcjdilbkdaa", sum := "1cdea260a93c9f4cb6066d7d57420899ce5cb867f569c3cd45d5687908ce38a0", func := "loop.example/g01089/laws.FnExactModalQuotient", spec := "fnExactModalQuotient", unfollowed := true, recurses := true, apart := false }
def FnExactModalQuotientSaid : Prop := fnExactModalQuotientRow.holds Try.pinned (OpenSpec.ofChange fnExactModalQuotientSpec)

/-- ITS FALSE NEIGHBOUR: 'it returns false'. Refute it at one input. -/
def fnExactModalQuotientWrong : ChangeSpec := { name := "fnExactModalQuotient", fn := fun _ => fun
  | [d1, d2] => { results := [.lit (.bool false)], args := [d1, d2] }
  | _ => none }
def FnExactModalQuotientWrongFalsely : Prop := fnExactModalQuotientRow.holds Try.pinned (OpenSpec.ofChange fnExactModalQuotientWrong)

/-- 'laws.FnExactClustersOf': WHATEVER THE INPUT: true; the input reads as it did. -/
def fnExactClustersOfSpec : ChangeSpec := { name := "fnExactClustersOf", fn := fun _ => fun
  | [d] => { results := [.lit (.bool true)], args := [d] }
  | _ => none }
def fnExactClustersOfRow : OpenClaim := { program := "ytejfjcjdilbkdaa", sum := "1cdea260a93c9f4cb6066d7d57420899ce5cb867f569c3cd45d5687908ce38a0", func := "loop.example/g01089/laws.FnExactClustersOf", spec := "fnExactClustersOf", unfollowed := true, recurses := true, apart := false }
def FnExactClustersOfSaid : Prop := fnExactClustersOfRow.holds Try.pinned (OpenSpec.ofChange fnExactClustersOfSpec)

/-- ITS FALSE NEIGHBOUR: 'it returns false'. Refute it at one input. -/
def fnExactClustersOfWrong : ChangeSpec := { name := "fnExactClustersOf", fn := fun _ => fun
  | [d] => { results := [.lit (.bool false)], args := [d] }
  | _ => none }
def FnExactClustersOfWrongFalsely : Prop := fnExactClustersOfRow.holds Try.pinned (OpenSpec.ofChange fnExactClustersOfWrong)

/-- 'laws.FnExactCloseFrame': WHATEVER THE INPUT: true; the input reads as it did. -/
def fnExactCloseFrameSpec : ChangeSpec := { name := "fnExactCloseFrame", fn := fun _ => fun
  | [d1, d2] => { results := [.lit (.bool true)], args := [d1, d2] }
  | _ => none }
def fnExactCloseFrameRow : OpenClaim := { program := "ytejfjcjdilbkdaa", sum := "1cdea260a93c9f4cb6066d7d57420899ce5cb867f569c3cd45d5687908ce38a0", func := "loop.example/g01089/laws.FnExactCloseFrame", spec := "fnExactCloseFrame", unfollowed := true, recurses := true, apart := false }
def FnExactCloseFrameSaid : Prop := fnExactCloseFrameRow.holds Try.pinned (OpenSpec.ofChange fnExactCloseFrameSpec)

/-- ITS FALSE NEIGHBOUR: 'it returns false'. Refute it at one input. -/
def fnExactCloseFrameWrong : ChangeSpec := { name := "fnExactCloseFrame", fn := fun _ => fun
  | [d1, d2] => { results := [.lit (.bool false)], args := [d1, d2] }
  | _ => none }
def FnExactCloseFrameWrongFalsely : Prop := fnExactCloseFrameRow.holds Try.pinned (OpenSpec.ofChange fnExactCloseFrameWrong)

/-- 'laws.FnExactUnravelFrame': WHATEVER THE INPUT: true; the input reads as it did. -/
def fnExactUnravelFrameSpec : ChangeSpec := { name := "fnExactUnravelFrame", fn := fun _ => fun
  | [d1, d2, d3] => { results := [.lit (.bool true)], args := [d1, d2, d3] }
  | _ => none }
def fnExactUnravelFrameRow : OpenClaim := { program := "ytejfjcjdilbkdaa", sum := "1cdea260a93c9f4cb6066d7d57420899ce5cb867f569c3cd45d5687908ce38a0", func := "loop.example/g01089/laws.FnExactUnravelFrame", spec := "fnExactUnravelFrame", unfollowed := true, recurses := true, apart := false }
def FnExactUnravelFrameSaid : Prop := fnExactUnravelFrameRow.holds Try.pinned (OpenSpec.ofChange fnExactUnravelFrameSpec)

/-- ITS FALSE NEIGHBOUR: 'it returns false'. Refute it at one input. -/
def fnExactUnravelFrameWrong : ChangeSpec := { name := "fnExactUnravelFrame", fn := fun _ => fun
  | [d1, d2, d3] => { results := [.lit (.bool false)], args := [d1, d2, d3] }
  | _ => none }
def FnExactUnravelFrameWrongFalsely : Prop := fnExactUnravelFrameRow.holds Try.pinned (OpenSpec.ofChange fnExactUnravelFrameWrong)

/-- 'laws.FnExactGreatestSimulation': WHATEVER THE INPUT: true; the input reads as it did. -/
def fnExactGreatestSimulationSpec : ChangeSpec := { name := "fnExactGreatestSimulation", fn := fun _ => fun
  | [d1, d2] => { results := [.lit (.bool true)], args := [d1, d2] }
  | _ => none }
def fnExactGreatestSimulationRow : OpenClaim := { program := "ytejfjcjdilbkdaa", sum := "1cdea260a93c9f4cb6066d7d57420899ce5cb867f569c3cd45d5687908ce38a0", func := "loop.example/g01089/laws.FnExactGreatestSimulation", spec := "fnExactGreatestSimulation", unfollowed := true, recurses := true, apart := false }
def FnExactGreatestSimulationSaid : Prop := fnExactGreatestSimulationRow.holds Try.pinned (OpenSpec.ofChange fnExactGreatestSimulationSpec)

/-- ITS FALSE NEIGHBOUR: 'it returns false'. Refute it at one input. -/
def fnExactGreatestSimulationWrong : ChangeSpec := { name := "fnExactGreatestSimulation", fn := fun _ => fun
  | [d1, d2] => { results := [.lit (.bool false)], args := [d1, d2] }
  | _ => none }
def FnExactGreatestSimulationWrongFalsely : Prop := fnExactGreatestSimulationRow.holds Try.pinned (OpenSpec.ofChange fnExactGreatestSimulationWrong)

/-- 'laws.FnExactGreatestBisimulation': WHATEVER THE INPUT: true; the input reads as it did. -/
def fnExactGreatestBisimulationSpec : ChangeSpec := { name := "fnExactGreatestBisimulation", fn := fun _ => fun
  | [d1, d2] => { results := [.lit (.bool true)], args := [d1, d2] }
  | _ => none }
def fnExactGreatestBisimulationRow : OpenClaim := { program := "ytejfjcjdilbkdaa", sum := "1cdea260a93c9f4cb6066d7d57420899ce5cb867f569c3cd45d5687908ce38a0", func := "loop.example/g01089/laws.FnExactGreatestBisimulation", spec := "fnExactGreatestBisimulation", unfollowed := true, recurses := true, apart := false }
def FnExactGreatestBisimulationSaid : Prop := fnExactGreatestBisimulationRow.holds Try.pinned (OpenSpec.ofChange fnExactGreatestBisimulationSpec)

/-- ITS FALSE NEIGHBOUR: 'it returns false'. Refute it at one input. -/
def fnExactGreatestBisimulationWrong : ChangeSpec := { name := "fnExactGreatestBisimulation", fn := fun _ => fun
  | [d1, d2] => { results := [.lit (.bool false)], args := [d1, d2] }
  | _ => none }
def FnExactGreatestBisimulationWrongFalsely : Prop := fnExactGreatestBisimulationRow.holds Try.pinned (OpenSpec.ofChange fnExactGreatestBisimulationWrong)

/-- 'laws.FnExactDepthsOfWorlds': WHATEVER THE INPUT: true; the input reads as it did. -/
def fnExactDepthsOfWorldsSpec : ChangeSpec := { name := "fnExactDepthsOfWorlds", fn := fun _ => fun
  | [d] => { results := [.lit (.bool true)], args := [d] }
  | _ => none }
def fnExactDepthsOfWorldsRow : OpenClaim := { program := "ytejfjcjdilbkdaa", sum := "1cdea260a93c9f4cb6066d7d57420899ce5cb867f569c3cd45d5687908ce38a0", func := "loop.example/g01089/laws.FnExactDepthsOfWorlds", spec := "fnExactDepthsOfWorlds", unfollowed := true, recurses := true, apart := false }
def FnExactDepthsOfWorldsSaid : Prop := fnExactDepthsOfWorldsRow.holds Try.pinned (OpenSpec.ofChange fnExactDepthsOfWorldsSpec)

/-- ITS FALSE NEIGHBOUR: 'it returns false'. Refute it at one input. -/
def fnExactDepthsOfWorldsWrong : ChangeSpec := { name := "fnExactDepthsOfWorlds", fn := fun _ => fun
  | [d] => { results := [.lit (.bool false)], args := [d] }
  | _ => none }
def FnExactDepthsOfWorldsWrongFalsely : Prop := fnExactDepthsOfWorldsRow.holds Try.pinned (OpenSpec.ofChange fnExactDepthsOfWorldsWrong)

/-- 'laws.FnExactBoundedBisimulation': WHATEVER THE INPUT: true; the input reads as it did. -/
def fnExactBoundedBisimulationSpec : ChangeSpec := { name := "fnExactBoundedBisimulation", fn := fun _ => fun
  | [d1, d2, d3] => { results := [.lit (.bool true)], args := [d1, d2, d3] }
  | _ => none }
def fnExactBoundedBisimulationRow : OpenClaim := { program := "ytejfjcjdilbkdaa", sum := "1cdea260a93c9f4cb6066d7d57420899ce5cb867f569c3cd45d5687908ce38a0", func := "loop.example/g01089/laws.FnExactBoundedBisimulation", spec := "fnExactBoundedBisimulation", unfollowed := true, recurses := true, apart := false }
def FnExactBoundedBisimulationSaid : Prop := fnExactBoundedBisimulationRow.holds Try.pinned (OpenSpec.ofChange fnExactBoundedBisimulationSpec)

/-- ITS FALSE NEIGHBOUR: 'it returns false'. Refute it at one input. -/
def fnExactBoundedBisimulationWrong : ChangeSpec := { name := "fnExactBoundedBisimulation", fn := fun _ => fun
  | [d1, d2, d3] => { results := [.lit (.bool false)], args := [d1, d2, d3] }
  | _ => none }
def FnExactBoundedBisimulationWrongFalsely : Prop := fnExactBoundedBisimulationRow.holds Try.pinned (OpenSpec.ofChange fnExactBoundedBisimulationWrong)

/- THE SECOND FORM. 'bulk': how many values and letters a reading holds, each counted each time it is reached (what is shared counts as often as it is met; a slice's spare places count too). A statement '..UptoSaid' is the law's where the arguments, and the package variables that the reading takes, are together of bulk at most 1048576: NARROWER than '..Said'. Prove '..Said' where nothing that the law and all that it calls make is longer than what came in: it says more and counts as full. Else prove '..UptoSaid'. A law counts once. -/
mutual
def uptoBulk {H : Type} : DataW H → Nat
  | .lit (.string bytes) => bytes.length + 1
  | .lit _ => 1
  | .nil => 1
  | .ptr d => uptoBulk d + 1
  | .slice elems spare => uptoBulkAll elems + uptoBulkAll spare + 1
  | .agg parts => uptoBulkAll parts + 1
  | .iface _ d => uptoBulk d + 1
  | .map entries => uptoBulkEntries entries + 1
  | .held _ => 1
def uptoBulkAll {H : Type} : List (DataW H) → Nat
  | [] => 0
  | d :: r => uptoBulk d + uptoBulkAll r
def uptoBulkEntries {H : Type} : List (Lit × DataW H) → Nat
  | [] => 0
  | x :: r => uptoBulkEntry x + uptoBulkEntries r
def uptoBulkEntry {H : Type} : Lit × DataW H → Nat
  | (.string bytes, d) => bytes.length + uptoBulk d + 1
  | (_, d) => uptoBulk d + 1
 end
def uptoSmall : (H : Type) → List (DataW H) → Bool := fun _ ds => decide (uptoBulkAll ds ≤ 1048576)
def OpenSpec.upto (s : _root_.Go.ChangeSpec) : _root_.Go.OpenSpec := { _root_.Go.OpenSpec.ofChange s with cond := some uptoSmall }

/-- 'laws.FnExactIsCongruence', WHERE WHAT IT READS IS OF BULK AT MOST 1048576: true; the input reads as it did. -/
def fnExactIsCongruenceUptoRow : OpenClaim := { program := "ytejfjcjdilbkdaa", sum := "1cdea260a93c9f4cb6066d7d57420899ce5cb867f569c3cd45d5687908ce38a0", func := "loop.example/g01089/laws.FnExactIsCongruence", spec := "fnExactIsCongruence", unfollowed := true, recurses := true, apart := false, narrowed := true }
def FnExactIsCongruenceUptoSaid : Prop := fnExactIsCongruenceUptoRow.holds Try.pinned (OpenSpec.upto fnExactIsCongruenceSpec)

/-- 'laws.FnExactSumModels', WHERE WHAT IT READS IS OF BULK AT MOST 1048576: true; the input reads as it did. -/
def fnExactSumModelsUptoRow : OpenClaim := { program := "ytejfjcjdilbkdaa", sum := "1cdea260a93c9f4cb6066d7d57420899ce5cb867f569c3cd45d5687908ce38a0", func := "loop.example/g01089/laws.FnExactSumModels", spec := "fnExactSumModels", unfollowed := true, recurses := true, apart := false, narrowed := true }
def FnExactSumModelsUptoSaid : Prop := fnExactSumModelsUptoRow.holds Try.pinned (OpenSpec.upto fnExactSumModelsSpec)

/-- 'laws.FnExactQuotientFrame', WHERE WHAT IT READS IS OF BULK AT MOST 1048576: true; the input reads as it did. -/
def fnExactQuotientFrameUptoRow : OpenClaim := { program := "ytejfjcjdilbkdaa", sum := "1cdea260a93c9f4cb6066d7d57420899ce5cb867f569c3cd45d5687908ce38a0", func := "loop.example/g01089/laws.FnExactQuotientFrame", spec := "fnExactQuotientFrame", unfollowed := true, recurses := true, apart := false, narrowed := true }
def FnExactQuotientFrameUptoSaid : Prop := fnExactQuotientFrameUptoRow.holds Try.pinned (OpenSpec.upto fnExactQuotientFrameSpec)

/-- 'laws.FnExactPartOfModel', WHERE WHAT IT READS IS OF BULK AT MOST 1048576: true; the input reads as it did. -/
def fnExactPartOfModelUptoRow : OpenClaim := { program := "ytejfjcjdilbkdaa", sum := "1cdea260a93c9f4cb6066d7d57420899ce5cb867f569c3cd45d5687908ce38a0", func := "loop.example/g01089/laws.FnExactPartOfModel", spec := "fnExactPartOfModel", unfollowed := true, recurses := true, apart := false, narrowed := true }
def FnExactPartOfModelUptoSaid : Prop := fnExactPartOfModelUptoRow.holds Try.pinned (OpenSpec.upto fnExactPartOfModelSpec)

/-- 'laws.FnExactModalQuotient', WHERE WHAT IT READS IS OF BULK AT MOST 1048576: true; the input reads as it did. -/
def fnExactModalQuotientUptoRow : OpenClaim := { program := "ytejfjcjdilbkdaa", sum := "1cdea260a93c9f4cb6066d7d57420899ce5cb867f569c3cd45d5687908ce38a0", func := "loop.example/g01089/laws.FnExactModalQuotient", spec := "fnExactModalQuotient", unfollowed := true, recurses := true, apart := false, narrowed := true }
def FnExactModalQuotientUptoSaid : Prop := fnExactModalQuotientUptoRow.holds Try.pinned (OpenSpec.upto fnExactModalQuotientSpec)

/-- 'laws.FnExactClustersOf', WHERE WHAT IT READS IS OF BULK AT MOST 1048576: true; the input reads as it did. -/
def fnExactClustersOfUptoRow : OpenClaim := { program := "ytejfjcjdilbkdaa", sum := "1cdea260a93c9f4cb6066d7d57420899ce5cb867f569c3cd45d5687908ce38a0", func := "loop.example/g01089/laws.FnExactClustersOf", spec := "fnExactClustersOf", unfollowed := true, recurses := true, apart := false, narrowed := true }
def FnExactClustersOfUptoSaid : Prop := fnExactClustersOfUptoRow.holds Try.pinned (OpenSpec.upto fnExactClustersOfSpec)

/-- 'laws.FnExactCloseFrame', WHERE WHAT IT READS IS OF BULK AT MOST 1048576: true; the input reads as it did. -/
def fnExactCloseFrameUptoRow : OpenClaim := { program := "ytejfjcjdilbkdaa", sum := "1cdea260a93c9f4cb6066d7d57420899ce5cb867f569c3cd45d5687908ce38a0", func := "loop.example/g01089/laws.FnExactCloseFrame", spec := "fnExactCloseFrame", unfollowed := true, recurses := true, apart := false, narrowed := true }
def FnExactCloseFrameUptoSaid : Prop := fnExactCloseFrameUptoRow.holds Try.pinned (OpenSpec.upto fnExactCloseFrameSpec)

/-- 'laws.FnExactUnravelFrame', WHERE WHAT IT READS IS OF BULK AT MOST 1048576: true; the input reads as it did. -/
def fnExactUnravelFrameUptoRow : OpenClaim := { program := "ytejfjcjdilbkdaa", sum := "1cdea260a93c9f4cb6066d7d57420899ce5cb867f569c3cd45d5687908ce38a0", func := "loop.example/g01089/laws.FnExactUnravelFrame", spec := "fnExactUnravelFrame", unfollowed := true, recurses := true, apart := false, narrowed := true }
def FnExactUnravelFrameUptoSaid : Prop := fnExactUnravelFrameUptoRow.holds Try.pinned (OpenSpec.upto fnExactUnravelFrameSpec)

/-- 'laws.FnExactGreatestSimulation', WHERE WHAT IT READS IS OF BULK AT MOST 1048576: true; the input reads as it did. -/
def fnExactGreatestSimulationUptoRow : OpenClaim := { program := "ytejfjcjdilbkdaa", sum := "1cdea260a93c9f4cb6066d7d57420899ce5cb867f569c3cd45d5687908ce38a0", func := "loop.example/g01089/laws.FnExactGreatestSimulation", spec := "fnExactGreatestSimulation", unfollowed := true, recurses := true, apart := false, narrowed := true }
def FnExactGreatestSimulationUptoSaid : Prop := fnExactGreatestSimulationUptoRow.holds Try.pinned (OpenSpec.upto fnExactGreatestSimulationSpec)

/-- 'laws.FnExactGreatestBisimulation', WHERE WHAT IT READS IS OF BULK AT MOST 1048576: true; the input reads as it did. -/
def fnExactGreatestBisimulationUptoRow : OpenClaim := { program := "ytejfjcjdilbkdaa", sum := "1cdea260a93c9f4cb6066d7d57420899ce5cb867f569c3cd45d5687908ce38a0", func := "loop.example/g01089/laws.FnExactGreatestBisimulation", spec := "fnExactGreatestBisimulation", unfollowed := true, recurses := true, apart := false, narrowed := true }
def FnExactGreatestBisimulationUptoSaid : Prop := fnExactGreatestBisimulationUptoRow.holds Try.pinned (OpenSpec.upto fnExactGreatestBisimulationSpec)

/-- 'laws.FnExactDepthsOfWorlds', WHERE WHAT IT READS IS OF BULK AT MOST 1048576: true; the input reads as it did. -/
def fnExactDepthsOfWorldsUptoRow : OpenClaim := { program := "ytejfjcjdilbkdaa", sum := "1cdea260a93c9f4cb6066d7d57420899ce5cb867f569c3cd45d5687908ce38a0", func := "loop.example/g01089/laws.FnExactDepthsOfWorlds", spec := "fnExactDepthsOfWorlds", unfollowed := true, recurses := true, apart := false, narrowed := true }
def FnExactDepthsOfWorldsUptoSaid : Prop := fnExactDepthsOfWorldsUptoRow.holds Try.pinned (OpenSpec.upto fnExactDepthsOfWorldsSpec)

/-- 'laws.FnExactBoundedBisimulation', WHERE WHAT IT READS IS OF BULK AT MOST 1048576: true; the input reads as it did. -/
def fnExactBoundedBisimulationUptoRow : OpenClaim := { program := "ytejfjcjdilbkdaa", sum := "1cdea260a93c9f4cb6066d7d57420899ce5cb867f569c3cd45d5687908ce38a0", func := "loop.example/g01089/laws.FnExactBoundedBisimulation", spec := "fnExactBoundedBisimulation", unfollowed := true, recurses := true, apart := false, narrowed := true }
def FnExactBoundedBisimulationUptoSaid : Prop := fnExactBoundedBisimulationUptoRow.holds Try.pinned (OpenSpec.upto fnExactBoundedBisimulationSpec)

end Rows
end Go.Proofs.Ytejfjcjdilbkdaa
