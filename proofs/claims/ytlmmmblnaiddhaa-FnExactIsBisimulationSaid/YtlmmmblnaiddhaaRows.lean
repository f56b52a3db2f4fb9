/-
  No cell of these rows narrows 'for every input' (looked for: loops, veiled, ifaces, maps, wideKeys, modest, calm, conditions, laid).
  DERIVED. THE GIVEN ROWS OF THIS SEAT. 12 by the template 'for every input the law returns true; each argument reads behind the call as it read before'; 0 by the template 'total and deterministic' (their statements: YtlmmmblnaiddhaaTotals.lean).
  GIVEN WITH THE SEED: the statements are not yours to turn. If you find one false, say at which input.
  Laid BY PROGRAM, IN A SANDBOX (cutbox-rows.mjs): the forced cells as the released guide's own fill.sh prints them over the translation 3718a743293f7958… (all of the seat's roots in one cut). By AI agents, Wed Nov 11 2026. No macro, syntax, notation, axiom, sorry.
-/
import Derived.Test.YtlmmmblnaiddhaaChecked
import GoSem.Claim
import GoSem.ClaimJoined
import GoSem.ClaimMapViews
import Derived.JoinedTies
import Derived.KernelRfl
namespace Go.Proofs.Ytlmmmblnaiddhaa
/- THE CELL 'sum', in the pinned program and in every row, IS THE sha256 OF THE DUMP (.gsa) THAT YtlmmmblnaiddhaaProg.lean LOADS. Nothing in Lean hashes anything: it is a label: what it is worth is what the hold of that sum in a sandbox is worth. -/
noncomputable def Try.pinned : Pinned := { name := "ytlmmmblnaiddhaa", sum := "3718a743293f7958360325eda4468d1ccf0d9012546d719b671fa5f1a2752416", checked := Try.checked }
namespace Rows
def none {H : Type} : Left H := { results := [], args := [] }

/-- 'laws.FnExactIsCongruence': WHATEVER THE INPUT: true; the input reads as it did. -/
def fnExactIsCongruenceSpec : ChangeSpec := { name := "fnExactIsCongruence", fn := fun _ => fun
  | [d1, d2] => { results := [.lit (.bool true)], args := [d1, d2] }
  | _ => none }
def fnExactIsCongruenceRow : OpenClaim := { program := "ytlmmmblnaiddhaa", sum := "3718a743293f7958360325eda4468d1ccf0d9012546d719b671fa5f1a2752416", func := "loop.example/g01089/laws.FnExactIsCongruence", spec := "fnExactIsCongruence", unfollowed := true, recurses := true, apart := false }
def FnExactIsCongruenceSaid : Prop := fnExactIsCongruenceRow.holds Try.pinned (OpenSpec.ofChange fnExactIsCongruenceSpec)

/-- ITS FALSE NEIGHBOUR: 'it returns false'. Refute it at one input. -/
def fnExactIsCongruenceWrong : ChangeSpec := { name := "fnExactIsCongruence", fn := fun _ => fun
  | [d1, d2] => { results := [.lit (.bool false)], args := [d1, d2] }
  | _ => none }
def FnExactIsCongruenceWrongFalsely : Prop := fnExactIsCongruenceRow.holds Try.pinned (OpenSpec.ofChange fnExactIsCongruenceWrong)

/-- 'laws.FnExactIsModelMorphism': WHATEVER THE INPUT: true; the input reads as it did. -/
def fnExactIsModelMorphismSpec : ChangeSpec := { name := "fnExactIsModelMorphism", fn := fun _ => fun
  | [d1, d2, d3] => { results := [.lit (.bool true)], args := [d1, d2, d3] }
  | _ => none }
def fnExactIsModelMorphismRow : OpenClaim := { program := "ytlmmmblnaiddhaa", sum := "3718a743293f7958360325eda4468d1ccf0d9012546d719b671fa5f1a2752416", func := "loop.example/g01089/laws.FnExactIsModelMorphism", spec := "fnExactIsModelMorphism", unfollowed := true, recurses := true, apart := false }
def FnExactIsModelMorphismSaid : Prop := fnExactIsModelMorphismRow.holds Try.pinned (OpenSpec.ofChange fnExactIsModelMorphismSpec)

/-- ITS FALSE NEIGHBOUR: 'it returns false'. Refute it at one input. -/
def fnExactIsModelMorphismWrong : ChangeSpec := { name := "fnExactIsModelMorphism", fn := fun _ => fun
  | [d1, d2, d3] => { results := [.lit (.bool false)], args := [d1, d2, d3] }
  | _ => none }
def FnExactIsModelMorphismWrongFalsely : Prop := fnExactIsModelMorphismRow.holds Try.pinned (OpenSpec.ofChange fnExactIsModelMorphismWrong)

/-- 'laws.FnExactSumModels': WHATEVER THE INPUT: true; the input reads as it did. -/
def fnExactSumModelsSpec : ChangeSpec := { name := "fnExactSumModels", fn := fun _ => fun
  | [d1, d2] => { results := [.lit (.bool true)], args := [d1, d2] }
  | _ => none }
def fnExactSumModelsRow : OpenClaim := { program := "ytlmmmblnaiddhaa", sum := "3718a743293f7958360325eda4468d1ccf0d9012546d719b671fa5f1a2752416", func := "loop.example/g01089/laws.FnExactSumModels", spec := "fnExactSumModels", unfollowed := true, recurses := true, apart := false }
def FnExactSumModelsSaid : Prop := fnExactSumModelsRow.holds Try.pinned (OpenSpec.ofChange fnExactSumModelsSpec)

/-- ITS FALSE NEIGHBOUR: 'it returns false'. Refute it at one input. -/
def fnExactSumModelsWrong : ChangeSpec := { name := "fnExactSumModels", fn := fun _ => fun
  | [d1, d2] => { results := [.lit (.bool false)], args := [d1, d2] }
  | _ => none }
def FnExactSumModelsWrongFalsely : Prop := fnExactSumModelsRow.holds Try.pinned (OpenSpec.ofChange fnExactSumModelsWrong)

/-- 'laws.FnExactIsSimulation': WHATEVER THE INPUT: true; the input reads as it did. -/
def fnExactIsSimulationSpec : ChangeSpec := { name := "fnExactIsSimulation", fn := fun _ => fun
  | [d1, d2, d3] => { results := [.lit (.bool true)], args := [d1, d2, d3] }
  | _ => none }
def fnExactIsSimulationRow : OpenClaim := { program := "ytlmmmblnaiddhaa", sum := "3718a743293f7958360325eda4468d1ccf0d9012546d719b671fa5f1a2752416", func := "loop.example/g01089/laws.FnExactIsSimulation", spec := "fnExactIsSimulation", unfollowed := true, recurses := true, apart := false }
def FnExactIsSimulationSaid : Prop := fnExactIsSimulationRow.holds Try.pinned (OpenSpec.ofChange fnExactIsSimulationSpec)

/-- ITS FALSE NEIGHBOUR: 'it returns false'. Refute it at one input. -/
def fnExactIsSimulationWrong : ChangeSpec := { name := "fnExactIsSimulation", fn := fun _ => fun
  | [d1, d2, d3] => { results := [.lit (.bool false)], args := [d1, d2, d3] }
  | _ => none }
def FnExactIsSimulationWrongFalsely : Prop := fnExactIsSimulationRow.holds Try.pinned (OpenSpec.ofChange fnExactIsSimulationWrong)

/-- 'laws.FnExactQuotientFrame': WHATEVER THE INPUT: true; the input reads as it did. -/
def fnExactQuotientFrameSpec : ChangeSpec := { name := "fnExactQuotientFrame", fn := fun _ => fun
  | [d1, d2] => { results := [.lit (.bool true)], args := [d1, d2] }
  | _ => none }
def fnExactQuotientFrameRow : OpenClaim := { program := "ytlmmmblnaiddhaa", sum := "3718a743293f7958360325eda4468d1ccf0d9012546d719b671fa5f1a2752416", func := "loop.example/g01089/laws.FnExactQuotientFrame", spec := "fnExactQuotientFrame", unfollowed := true, recurses := true, apart := false }
def FnExactQuotientFrameSaid : Prop := fnExactQuotientFrameRow.holds Try.pinned (OpenSpec.ofChange fnExactQuotientFrameSpec)

/-- ITS FALSE NEIGHBOUR: 'it returns false'. Refute it at one input. -/
def fnExactQuotientFrameWrong : ChangeSpec := { name := "fnExactQuotientFrame", fn := fun _ => fun
  | [d1, d2] => { results := [.lit (.bool false)], args := [d1, d2] }
  | _ => none }
def FnExactQuotientFrameWrongFalsely : Prop := fnExactQuotientFrameRow.holds Try.pinned (OpenSpec.ofChange fnExactQuotientFrameWrong)

/-- 'laws.FnExactIsBisimulation': WHATEVER THE INPUT: true; the input reads as it did. -/
def fnExactIsBisimulationSpec : ChangeSpec := { name := "fnExactIsBisimulation", fn := fun _ => fun
  | [d1, d2, d3] => { results := [.lit (.bool true)], args := [d1, d2, d3] }
  | _ => none }
def fnExactIsBisimulationRow : OpenClaim := { program := "ytlmmmblnaiddhaa", sum := "3718a743293f7958360325eda4468d1ccf0d9012546d719b671fa5f1a2752416", func := "loop.example/g01089/laws.FnExactIsBisimulation", spec := "fnExactIsBisimulation", unfollowed := true, recurses := true, apart := false }
def FnExactIsBisimulationSaid : Prop := fnExactIsBisimulationRow.holds Try.pinned (OpenSpec.ofChange fnExactIsBisimulationSpec)

/-- ITS FALSE NEIGHBOUR: 'it returns false'. Refute it at one input. -/
def fnExactIsBisimulationWrong : ChangeSpec := { name := "fnExactIsBisimulation", fn := fun _ => fun
  | [d1, d2, d3] => { results := [.lit (.bool false)], args := [d1, d2, d3] }
  | _ => none }
def FnExactIsBisimulationWrongFalsely : Prop := fnExactIsBisimulationRow.holds Try.pinned (OpenSpec.ofChange fnExactIsBisimulationWrong)

/-- 'laws.FnExactPartOfModel': WHATEVER THE INPUT: true; the input reads as it did. -/
def fnExactPartOfModelSpec : ChangeSpec := { name := "fnExactPartOfModel", fn := fun _ => fun
  | [d1, d2] => { results := [.lit (.bool true)], args := [d1, d2] }
  | _ => none }
def fnExactPartOfModelRow : OpenClaim := { program := "ytlmmmblnaiddhaa", sum := "3718a743293f7958360325eda4468d1ccf0d9012546d719b671fa5f1a2752416", func := "loop.example/g01089/laws.FnExactPartOfModel", spec := "fnExactPartOfModel", unfollowed := true, recurses := true, apart := false }
def FnExactPartOfModelSaid : Prop := fnExactPartOfModelRow.holds Try.pinned (OpenSpec.ofChange fnExactPartOfModelSpec)

/-- ITS FALSE NEIGHBOUR: 'it returns false'. Refute it at one input. -/
def fnExactPartOfModelWrong : ChangeSpec := { name := "fnExactPartOfModel", fn := fun _ => fun
  | [d1, d2] => { results := [.lit (.bool false)], args := [d1, d2] }
  | _ => none }
def FnExactPartOfModelWrongFalsely : Prop := fnExactPartOfModelRow.holds Try.pinned (OpenSpec.ofChange fnExactPartOfModelWrong)

/-- 'laws.FnExactModalQuotient': WHATEVER THE INPUT: true; the input reads as it did. -/
def fnExactModalQuotientSpec : ChangeSpec := { name := "fnExactModalQuotient", fn := fun _ => fun
  | [d1, d2] => { results := [.lit (.bool true)], args := [d1, d2] }
  | _ => none }
def fnExactModalQuotientRow : OpenClaim := { program := "ytlmmmblnaiddhaa", sum := "3718a743293f7958360325eda4468d1ccf0d9012546d719b671fa5f1a2752416", func := "loop.example/g01089/laws.FnExactModalQuotient", spec := "fnExactModalQuotient", unfollowed := true, recurses := true, apart := false }
def FnExactModalQuotientSaid : Prop := fnExactModalQuotientRow.holds Try.pinned (OpenSpec.ofChange fnExactModalQuotientSpec)

/-- ITS FALSE NEIGHBOUR: 'it returns false'. Refute it at one input. -/
def fnExactModalQuotientWrong : ChangeSpec := { name := "fnExactModalQuotient", fn := fun _ => fun
  | [d1, d2] => { results := [.lit (.bool false)], args := [d1, d2] }
  | _ => none }
def FnExactModalQuotientWrongFalsely : Prop := fnExactModalQuotientRow.holds Try.pinned (OpenSpec.ofChange fnExactModalQuotientWrong)

/-- 'laws.FnExactComposeRelations': WHATEVER THE INPUT: true; the input reads as it did. -/
def fnExactComposeRelationsSpec : ChangeSpec := { name := "fnExactComposeRelations", fn := fun _ => fun
  | [d1, d2] => { results := [.lit (.bool true)], args := [d1, d2] }
  | _ => none }
def fnExactComposeRelationsRow : OpenClaim := { program := "ytlmmmblnaiddhaa", sum := "3718a743293f7958360325eda4468d1ccf0d9012546d719b671fa5f1a2752416", func := "loop.example/g01089/laws.FnExactComposeRelations", spec := "fnExactComposeRelations", unfollowed := true, recurses := true, apart := false }
def FnExactComposeRelationsSaid : Prop := fnExactComposeRelationsRow.holds Try.pinned (OpenSpec.ofChange fnExactComposeRelationsSpec)

/-- ITS FALSE NEIGHBOUR: 'it returns false'. Refute it at one input. -/
def fnExactComposeRelationsWrong : ChangeSpec := { name := "fnExactComposeRelations", fn := fun _ => fun
  | [d1, d2] => { results := [.lit (.bool false)], args := [d1, d2] }
  | _ => none }
def FnExactComposeRelationsWrongFalsely : Prop := fnExactComposeRelationsRow.holds Try.pinned (OpenSpec.ofChange fnExactComposeRelationsWrong)

/-- 'laws.FnExactPartEnd': WHATEVER THE INPUT: true; the input reads as it did. -/
def fnExactPartEndSpec : ChangeSpec := { name := "fnExactPartEnd", fn := fun _ => fun
  | [d1, d2] => { results := [.lit (.bool true)], args := [d1, d2] }
  | _ => none }
def fnExactPartEndRow : OpenClaim := { program := "ytlmmmblnaiddhaa", sum := "3718a743293f7958360325eda4468d1ccf0d9012546d719b671fa5f1a2752416", func := "loop.example/g01089/laws.FnExactPartEnd", spec := "fnExactPartEnd", unfollowed := true, recurses := true, apart := false }
def FnExactPartEndSaid : Prop := fnExactPartEndRow.holds Try.pinned (OpenSpec.ofChange fnExactPartEndSpec)

/-- ITS FALSE NEIGHBOUR: 'it returns false'. Refute it at one input. -/
def fnExactPartEndWrong : ChangeSpec := { name := "fnExactPartEnd", fn := fun _ => fun
  | [d1, d2] => { results := [.lit (.bool false)], args := [d1, d2] }
  | _ => none }
def FnExactPartEndWrongFalsely : Prop := fnExactPartEndRow.holds Try.pinned (OpenSpec.ofChange fnExactPartEndWrong)

/-- 'laws.FnExactClustersOf': WHATEVER THE INPUT: true; the input reads as it did. -/
def fnExactClustersOfSpec : ChangeSpec := { name := "fnExactClustersOf", fn := fun _ => fun
  | [d] => { results := [.lit (.bool true)], args := [d] }
  | _ => none }
def fnExactClustersOfRow : OpenClaim := { program := "ytlmmmblnaiddhaa", sum := "3718a743293f7958360325eda4468d1ccf0d9012546d719b671fa5f1a2752416", func := "loop.example/g01089/laws.FnExactClustersOf", spec := "fnExactClustersOf", unfollowed := true, recurses := true, apart := false }
def FnExactClustersOfSaid : Prop := fnExactClustersOfRow.holds Try.pinned (OpenSpec.ofChange fnExactClustersOfSpec)

/-- ITS FALSE NEIGHBOUR: 'it returns false'. Refute it at one input. -/
def fnExactClustersOfWrong : ChangeSpec := { name := "fnExactClustersOf", fn := fun _ => fun
  | [d] => { results := [.lit (.bool false)], args := [d] }
  | _ => none }
def FnExactClustersOfWrongFalsely : Prop := fnExactClustersOfRow.holds Try.pinned (OpenSpec.ofChange fnExactClustersOfWrong)

/-- 'laws.FnExactCloseFrame': WHATEVER THE INPUT: true; the input reads as it did. -/
def fnExactCloseFrameSpec : ChangeSpec := { name := "fnExactCloseFrame", fn := fun _ => fun
  | [d1, d2] => { results := [.lit (.bool true)], args := [d1, d2] }
  | _ => none }
def fnExactCloseFrameRow : OpenClaim := { program := "ytlmmmblnaiddhaa", sum := "3718a743293f7958360325eda4468d1ccf0d9012546d719b671fa5f1a2752416", func := "loop.example/g01089/laws.FnExactCloseFrame", spec := "fnExactCloseFrame", unfollowed := true, recurses := true, apart := false }
def FnExactCloseFrameSaid : Prop := fnExactCloseFrameRow.holds Try.pinned (OpenSpec.ofChange fnExactCloseFrameSpec)

/-- ITS FALSE NEIGHBOUR: 'it returns false'. Refute it at one input. -/
def fnExactCloseFrameWrong : ChangeSpec := { name := "fnExactCloseFrame", fn := fun _ => fun
  | [d1, d2] => { results := [.lit (.bool false)], args := [d1, d2] }
  | _ => none }
def FnExactCloseFrameWrongFalsely : Prop := fnExactCloseFrameRow.holds Try.pinned (OpenSpec.ofChange fnExactCloseFrameWrong)

/- THE SECOND FORM. 'bulk': how many values and letters a reading holds, each counted each time it is reached (what is shared counts as often as it is met; a slice's spare places count too). A statement '..UptoSaid' is the law's where the arguments, and the package variables that the reading takes, are together of bulk at most 1048576: NARROWER than '..Said'. Prove '..Said' where nothing that the law and all that it calls make is longer than what came in: it says more and counts as full. Else prove '..UptoSaid'. A law counts once. -/
mutual
def uptoBulk {H : Type} : DataW H → Nat
  | .lit (.string bytes) => bytes.length + 1
  | .lit _ => 1
  | .nil => 1
  | .ptr d => uptoBulk d + 1
  | .slice elems spare => uptoBulkAll elems + uptoBulkAll spare + 1
  | .agg parts => uptoBulkAll parts + 1
  | .iface _ d => uptoBulk d + 1
  | .map entries => uptoBulkEntries entries + 1
  | .held _ => 1
def uptoBulkAll {H : Type} : List (DataW H) → Nat
  | [] => 0
  | d :: r => uptoBulk d + uptoBulkAll r
def uptoBulkEntries {H : Type} : List (Lit × DataW H) → Nat
  | [] => 0
  | x :: r => uptoBulkEntry x + uptoBulkEntries r
def uptoBulkEntry {H : Type} : Lit × DataW H → Nat
  | (.string bytes, d) => bytes.length + uptoBulk d + 1
  | (_, d) => uptoBulk d + 1
 end
def uptoSmall : (H : Type) → List (DataW H) → Bool := fun _ ds => decide (uptoBulkAll ds ≤ 1048576)
def OpenSpec.upto (s : _root_.Go.ChangeSpec) : _root_.Go.OpenSpec := { _root_.Go.OpenSpec.ofChange s with cond := some uptoSmall }

/-- 'laws.FnExactIsCongruence', WHERE WHAT IT READS IS OF BULK AT MOST 1048576: true; the input reads as it did. -/
def fnExactIsCongruenceUptoRow : OpenClaim := { program := "ytlmmmblnaiddhaa", sum := "3718a743293f7958360325eda4468d1ccf0d9012546d719b671fa5f1a2752416", func := "loop.example/g01089/laws.FnExactIsCongruence", spec := "fnExactIsCongruence", unfollowed := true, recurses := true, apart := false, narrowed := true }
def FnExactIsCongruenceUptoSaid : Prop := fnExactIsCongruenceUptoRow.holds Try.pinned (OpenSpec.upto fnExactIsCongruenceSpec)

/-- 'laws.FnExactIsModelMorphism', WHERE WHAT IT READS IS OF BULK AT MOST 1048576: true; the input reads as it did. -/
def fnExactIsModelMorphismUptoRow : OpenClaim := { program := "ytlmmmblnaiddhaa", sum := "3718a743293f7958360325eda4468d1ccf0d9012546d719b671fa5f1a2752416", func := "loop.example/g01089/laws.FnExactIsModelMorphism", spec := "fnExactIsModelMorphism", unfollowed := true, recurses := true, apart := false, narrowed := true }
def FnExactIsModelMorphismUptoSaid : Prop := fnExactIsModelMorphismUptoRow.holds Try.pinned (OpenSpec.upto fnExactIsModelMorphismSpec)

/-- 'laws.FnExactSumModels', WHERE WHAT IT READS IS OF BULK AT MOST 1048576: true; the input reads as it did. -/
def fnExactSumModelsUptoRow : OpenClaim := { program := "ytlmmmblnaiddhaa", sum := "3718a743293f7958360325eda4468d1ccf0d9012546d719b671fa5f1a2752416", func := "loop.example/g01089/laws.FnExactSumModels", spec := "fnExactSumModels", unfollowed := true, recurses := true, apart := false, narrowed := true }
def FnExactSumModelsUptoSaid : Prop := fnExactSumModelsUptoRow.holds Try.pinned (OpenSpec.upto fnExactSumModelsSpec)

/-- 'laws.FnExactIsSimulation', WHERE WHAT IT READS IS OF BULK AT MOST 1048576: true; the input reads as it did. -/
def fnExactIsSimulationUptoRow : OpenClaim := { program := "ytlmmmblnaiddhaa", sum := "3718a743293f7958360325eda4468d1ccf0d9012546d719b671fa5f1a2752416", func := "loop.example/g01089/laws.FnExactIsSimulation", spec := "fnExactIsSimulation", unfollowed := true, recurses := true, apart := false, narrowed := true }
def FnExactIsSimulationUptoSaid : Prop := fnExactIsSimulationUptoRow.holds Try.pinned (OpenSpec.upto fnExactIsSimulationSpec)

/-- 'laws.FnExactQuotientFrame', WHERE WHAT IT READS IS OF BULK AT MOST 1048576: true; the input reads as it did. -/
def fnExactQuotientFrameUptoRow : OpenClaim := { program := "ytlmmmblnaiddhaa", sum := "3718a743293f7958360325eda4468d1ccf0d9012546d719b671fa5f1a2752416", func := "loop.example/g01089/laws.FnExactQuotientFrame", spec := "fnExactQuotientFrame", unfollowed := true, recurses := true, apart := false, narrowed := true }
def FnExactQuotientFrameUptoSaid : Prop := fnExactQuotientFrameUptoRow.holds Try.pinned (OpenSpec.upto fnExactQuotientFrameSpec)

/-- 'laws.FnExactIsBisimulation', WHERE WHAT IT READS IS OF BULK AT MOST 1048576: true; the input reads as it did. -/
def fnExactIsBisimulationUptoRow : OpenClaim := { program := "ytlmmmblnaiddhaa", sum := "3718a743293f7958360325eda4468d1ccf0d9012546d719b671fa5f1a2752416", func := "loop.example/g01089/laws.FnExactIsBisimulation", spec := "fnExactIsBisimulation", unfollowed := true, recurses := true, apart := false, narrowed := true }
def FnExactIsBisimulationUptoSaid : Prop := fnExactIsBisimulationUptoRow.holds Try.pinned (OpenSpec.upto fnExactIsBisimulationSpec)

/-- 'laws.FnExactPartOfModel', WHERE WHAT IT READS IS OF BULK AT MOST 1048576: true; the input reads as it did. -/
def fnExactPartOfModelUptoRow : OpenClaim := { program := "ytlmmmblnaiddhaa", sum := "3718a743293f7958360325eda4468d1ccf0d9012546d719b671fa5f1a2752416", func := "loop.example/g01089/laws.FnExactPartOfModel", spec := "fnExactPartOfModel", unfollowed := true, recurses := true, apart := false, narrowed := true }
def FnExactPartOfModelUptoSaid : Prop := fnExactPartOfModelUptoRow.holds Try.pinned (OpenSpec.upto fnExactPartOfModelSpec)

/-- 'laws.FnExactModalQuotient', WHERE WHAT IT READS IS OF BULK AT MOST 1048576: true; the input reads as it did. -/
def fnExactModalQuotientUptoRow : OpenClaim := { program := "ytlmmmblnaiddhaa", sum := "3718a743293f7958360325eda4468d1ccf0d9012546d719b671fa5f1a2752416", func := "loop.example/g01089/laws.FnExactModalQuotient", spec := "fnExactModalQuotient", unfollowed := true, recurses := true, apart := false, narrowed := true }
def FnExactModalQuotientUptoSaid : Prop := fnExactModalQuotientUptoRow.holds Try.pinned (OpenSpec.upto fnExactModalQuotientSpec)

/-- 'laws.FnExactComposeRelations', WHERE WHAT IT READS IS OF BULK AT MOST 1048576: true; the input reads as it did. -/
def fnExactComposeRelationsUptoRow : OpenClaim := { program := "ytlmmmblnaiddhaa", sum := "3718a743293f7958360325eda4468d1ccf0d9012546d719b671fa5f1a2752416", func := "loop.example/g01089/laws.FnExactComposeRelations", spec := "fnExactComposeRelations", unfollowed := true, recurses := true, apart := false, narrowed := true }
def FnExactComposeRelationsUptoSaid : Prop := fnExactComposeRelationsUptoRow.holds Try.pinned (OpenSpec.upto fnExactComposeRelationsSpec)

/-- 'laws.FnExactPartEnd', WHERE WHAT IT READS IS OF BULK AT MOST 1048576: true; the input reads as it did. -/
def fnExactPartEndUptoRow : OpenClaim := { program := "ytlmmmblnaiddhaa", sum := "3718a743293f7958360325eda4468d1ccf0d9012546d719b671fa5f1a2752416", func := "loop.example/g01089/laws.FnExactPartEnd", spec := "fnExactPartEnd", unfollowed := true, recurses := true, apart := false, narrowed := true }
def FnExactPartEndUptoSaid : Prop := fnExactPartEndUptoRow.holds Try.pinned (OpenSpec.upto fnExactPartEndSpec)

/-- 'laws.FnExactClustersOf', WHERE WHAT IT READS IS OF BULK AT MOST 1048576: true; the input reads as it did. -/
def fnExactClustersOfUptoRow : OpenClaim := { program := "ytlmmmblnaiddhaa", sum := "3718a743293f7958360325eda4468d1ccf0d9012546d719b671fa5f1a2752416", func := "loop.example/g01089/laws.FnExactClustersOf", spec := "fnExactClustersOf", unfollowed := true, recurses := true, apart := false, narrowed := true }
def FnExactClustersOfUptoSaid : Prop := fnExactClustersOfUptoRow.holds Try.pinned (OpenSpec.upto fnExactClustersOfSpec)

/-- 'laws.FnExactCloseFrame', WHERE WHAT IT READS IS OF BULK AT MOST 1048576: true; the input reads as it did. -/
def fnExactCloseFrameUptoRow : OpenClaim := { program := "ytlmmmblnaiddhaa", sum := "3718a743293f7958360325eda4468d1ccf0d9012546d719b671fa5f1a2752416", func := "loop.example/g01089/laws.FnExactCloseFrame", spec := "fnExactCloseFrame", unfollowed := true, recurses := true, apart := false, narrowed := true }
def FnExactCloseFrameUptoSaid : Prop := fnExactCloseFrameUptoRow.holds Try.pinned (OpenSpec.upto fnExactCloseFrameSpec)

end Rows
end Go.Proofs.Ytlmmmblnaiddhaa
