/-
  No cell of these rows narrows 'for every input' (looked for: loops, veiled, ifaces, maps, wideKeys, modest, calm, conditions, laid).
  DERIVED. THE GIVEN ROWS OF THIS SEAT. 12 by the template 'for every input the law returns true; each argument reads behind the call as it read before'; 0 by the template 'total and deterministic' (their statements: YtgcmfjliklcbdaaTotals.lean).
  GIVEN WITH THE SEED: the statements are not yours to turn. If you find one false, say at which input.
  Laid BY PROGRAM, IN A SANDBOX (cutbox-rows.mjs): the forced cells as the released guide's own fill.sh prints them over the translation 44ab67a26e9a635e… (all of the seat's roots in one cut). By AI agents, Wed Nov 11 2026. No macro, syntax, notation, axiom, sorry.
-/
import Derived.Test.YtgcmfjliklcbdaaChecked
import GoSem.Claim
import GoSem.ClaimJoined
import GoSem.ClaimMapViews
import Derived.JoinedTies
import Derived.KernelRfl
namespace Go.Proofs.Ytgcmfjliklcbdaa
/- THE CELL 'sum', in the pinned program and in every row, IS THE sha256 OF THE DUMP (.gsa) THAT YtgcmfjliklcbdaaProg.lean LOADS. Nothing in Lean hashes anything: it is a label: what it is worth is what the hold of that sum in a sandbox is worth. -/
noncomputable def Try.pinned : Pinned := { name := "ytgcmfjliklcbdaa", sum := "44ab67a26e9a635e5186ba4abb5aa21d3c5ed9c932ebb45954fa08878c9ed3a5", checked := Try.checked }
namespace Rows
def none {H : Type} : Left H := { results := [], args := [] }

/-- 'laws.FnExactPartOfFrame': WHATEVER THE INPUT: true; the input reads as it did. -/
def fnExactPartOfFrameSpec : ChangeSpec := { name := "fnExactPartOfFrame", fn := fun _ => fun
  | [d1, d2] => { results := [.lit (.bool true)], args := [d1, d2] }
  | _ => none }
def fnExactPartOfFrameRow : OpenClaim := { program := "ytgcmfjliklcbdaa", sum := "44ab67a26e9a635e5186ba4abb5aa21d3c5ed9c932ebb45954fa08878c9ed3a5", func := "loop.example/g01089/laws.FnExactPartOfFrame", spec := "fnExactPartOfFrame", unfollowed := true, recurses := true, apart := false }
def FnExactPartOfFrameSaid : Prop := fnExactPartOfFrameRow.holds Try.pinned (OpenSpec.ofChange fnExactPartOfFrameSpec)

/-- ITS FALSE NEIGHBOUR: 'it returns false'. Refute it at one input. -/
def fnExactPartOfFrameWrong : ChangeSpec := { name := "fnExactPartOfFrame", fn := fun _ => fun
  | [d1, d2] => { results := [.lit (.bool false)], args := [d1, d2] }
  | _ => none }
def FnExactPartOfFrameWrongFalsely : Prop := fnExactPartOfFrameRow.holds Try.pinned (OpenSpec.ofChange fnExactPartOfFrameWrong)

/-- 'laws.FnExactThenMorphisms': WHATEVER THE INPUT: true; the input reads as it did. -/
def fnExactThenMorphismsSpec : ChangeSpec := { name := "fnExactThenMorphisms", fn := fun _ => fun
  | [d1, d2, d3, d4, d5] => { results := [.lit (.bool true)], args := [d1, d2, d3, d4, d5] }
  | _ => none }
def fnExactThenMorphismsRow : OpenClaim := { program := "ytgcmfjliklcbdaa", sum := "44ab67a26e9a635e5186ba4abb5aa21d3c5ed9c932ebb45954fa08878c9ed3a5", func := "loop.example/g01089/laws.FnExactThenMorphisms", spec := "fnExactThenMorphisms", unfollowed := true, recurses := true, apart := false }
def FnExactThenMorphismsSaid : Prop := fnExactThenMorphismsRow.holds Try.pinned (OpenSpec.ofChange fnExactThenMorphismsSpec)

/-- ITS FALSE NEIGHBOUR: 'it returns false'. Refute it at one input. -/
def fnExactThenMorphismsWrong : ChangeSpec := { name := "fnExactThenMorphisms", fn := fun _ => fun
  | [d1, d2, d3, d4, d5] => { results := [.lit (.bool false)], args := [d1, d2, d3, d4, d5] }
  | _ => none }
def FnExactThenMorphismsWrongFalsely : Prop := fnExactThenMorphismsRow.holds Try.pinned (OpenSpec.ofChange fnExactThenMorphismsWrong)

/-- 'laws.FnExactIsCongruence': WHATEVER THE INPUT: true; the input reads as it did. -/
def fnExactIsCongruenceSpec : ChangeSpec := { name := "fnExactIsCongruence", fn := fun _ => fun
  | [d1, d2] => { results := [.lit (.bool true)], args := [d1, d2] }
  | _ => none }
def fnExactIsCongruenceRow : OpenClaim := { program := "ytgcmfjliklcbdaa", sum := "44ab67a26e9a635e5186ba4abb5aa21d3c5ed9c932ebb45954fa08878c9ed3a5", func := "loop.example/g01089/laws.FnExactIsCongruence", spec := "fnExactIsCongruence", unfollowed := true, recurses := true, apart := false }
def FnExactIsCongruenceSaid : Prop := fnExactIsCongruenceRow.holds Try.pinned (OpenSpec.ofChange fnExactIsCongruenceSpec)

/-- ITS FALSE NEIGHBOUR: 'it returns false'. Refute it at one input. -/
def fnExactIsCongruenceWrong : ChangeSpec := { name := "fnExactIsCongruence", fn := fun _ => fun
  | [d1, d2] => { results := [.lit (.bool false)], args := [d1, d2] }
  | _ => none }
def FnExactIsCongruenceWrongFalsely : Prop := fnExactIsCongruenceRow.holds Try.pinned (OpenSpec.ofChange fnExactIsCongruenceWrong)

/-- 'laws.FnExactDualHomomorphism': WHATEVER THE INPUT: true; the input reads as it did. -/
def fnExactDualHomomorphismSpec : ChangeSpec := { name := "fnExactDualHomomorphism", fn := fun _ => fun
  | [d1, d2, d3] => { results := [.lit (.bool true)], args := [d1, d2, d3] }
  | _ => none }
def fnExactDualHomomorphismRow : OpenClaim := { program := "ytgcmfjliklcbdaa", sum := "44ab67a26e9a635e5186ba4abb5aa21d3c5ed9c932ebb45954fa08878c9ed3a5", func := "loop.example/g01089/laws.FnExactDualHomomorphism", spec := "fnExactDualHomomorphism", unfollowed := true, recurses := true, apart := false }
def FnExactDualHomomorphismSaid : Prop := fnExactDualHomomorphismRow.holds Try.pinned (OpenSpec.ofChange fnExactDualHomomorphismSpec)

/-- ITS FALSE NEIGHBOUR: 'it returns false'. Refute it at one input. -/
def fnExactDualHomomorphismWrong : ChangeSpec := { name := "fnExactDualHomomorphism", fn := fun _ => fun
  | [d1, d2, d3] => { results := [.lit (.bool false)], args := [d1, d2, d3] }
  | _ => none }
def FnExactDualHomomorphismWrongFalsely : Prop := fnExactDualHomomorphismRow.holds Try.pinned (OpenSpec.ofChange fnExactDualHomomorphismWrong)

/-- 'laws.FnExactFrameOfAlgebra': WHATEVER THE INPUT: true; the input reads as it did. -/
def fnExactFrameOfAlgebraSpec : ChangeSpec := { name := "fnExactFrameOfAlgebra", fn := fun _ => fun
  | [d] => { results := [.lit (.bool true)], args := [d] }
  | _ => none }
def fnExactFrameOfAlgebraRow : OpenClaim := { program := "ytgcmfjliklcbdaa", sum := "44ab67a26e9a635e5186ba4abb5aa21d3c5ed9c932ebb45954fa08878c9ed3a5", func := "loop.example/g01089/laws.FnExactFrameOfAlgebra", spec := "fnExactFrameOfAlgebra", unfollowed := true, recurses := true, apart := false }
def FnExactFrameOfAlgebraSaid : Prop := fnExactFrameOfAlgebraRow.holds Try.pinned (OpenSpec.ofChange fnExactFrameOfAlgebraSpec)

/-- ITS FALSE NEIGHBOUR: 'it returns false'. Refute it at one input. -/
def fnExactFrameOfAlgebraWrong : ChangeSpec := { name := "fnExactFrameOfAlgebra", fn := fun _ => fun
  | [d] => { results := [.lit (.bool false)], args := [d] }
  | _ => none }
def FnExactFrameOfAlgebraWrongFalsely : Prop := fnExactFrameOfAlgebraRow.holds Try.pinned (OpenSpec.ofChange fnExactFrameOfAlgebraWrong)

/-- 'laws.FnExactIsModelMorphism': WHATEVER THE INPUT: true; the input reads as it did. -/
def fnExactIsModelMorphismSpec : ChangeSpec := { name := "fnExactIsModelMorphism", fn := fun _ => fun
  | [d1, d2, d3] => { results := [.lit (.bool true)], args := [d1, d2, d3] }
  | _ => none }
def fnExactIsModelMorphismRow : OpenClaim := { program := "ytgcmfjliklcbdaa", sum := "44ab67a26e9a635e5186ba4abb5aa21d3c5ed9c932ebb45954fa08878c9ed3a5", func := "loop.example/g01089/laws.FnExactIsModelMorphism", spec := "fnExactIsModelMorphism", unfollowed := true, recurses := true, apart := false }
def FnExactIsModelMorphismSaid : Prop := fnExactIsModelMorphismRow.holds Try.pinned (OpenSpec.ofChange fnExactIsModelMorphismSpec)

/-- ITS FALSE NEIGHBOUR: 'it returns false'. Refute it at one input. -/
def fnExactIsModelMorphismWrong : ChangeSpec := { name := "fnExactIsModelMorphism", fn := fun _ => fun
  | [d1, d2, d3] => { results := [.lit (.bool false)], args := [d1, d2, d3] }
  | _ => none }
def FnExactIsModelMorphismWrongFalsely : Prop := fnExactIsModelMorphismRow.holds Try.pinned (OpenSpec.ofChange fnExactIsModelMorphismWrong)

/-- 'laws.FnExactSumModels': WHATEVER THE INPUT: true; the input reads as it did. -/
def fnExactSumModelsSpec : ChangeSpec := { name := "fnExactSumModels", fn := fun _ => fun
  | [d1, d2] => { results := [.lit (.bool true)], args := [d1, d2] }
  | _ => none }
def fnExactSumModelsRow : OpenClaim := { program := "ytgcmfjliklcbdaa", sum := "44ab67a26e9a635e5186ba4abb5aa21d3c5ed9c932ebb45954fa08878c9ed3a5", func := "loop.example/g01089/laws.FnExactSumModels", spec := "fnExactSumModels", unfollowed := true, recurses := true, apart := false }
def FnExactSumModelsSaid : Prop := fnExactSumModelsRow.holds Try.pinned (OpenSpec.ofChange fnExactSumModelsSpec)

/-- ITS FALSE NEIGHBOUR: 'it returns false'. Refute it at one input. -/
def fnExactSumModelsWrong : ChangeSpec := { name := "fnExactSumModels", fn := fun _ => fun
  | [d1, d2] => { results := [.lit (.bool false)], args := [d1, d2] }
  | _ => none }
def FnExactSumModelsWrongFalsely : Prop := fnExactSumModelsRow.holds Try.pinned (OpenSpec.ofChange fnExactSumModelsWrong)

/-- 'laws.FnExactIsSimulation': WHATEVER THE INPUT: true; the input reads as it did. -/
def fnExactIsSimulationSpec : ChangeSpec := { name := "fnExactIsSimulation", fn := fun _ => fun
  | [d1, d2, d3] => { results := [.lit (.bool true)], args := [d1, d2, d3] }
  | _ => none }
def fnExactIsSimulationRow : OpenClaim := { program := "ytgcmfjliklcbdaa", sum := "44ab67a26e9a635e5186ba4abb5aa21d3c5ed9c932ebb45954fa08878c9ed3a5", func := "loop.example/g01089/laws.FnExactIsSimulation", spec := "fnExactIsSimulation", unfollowed := true, recurses := true, apart := false }
def FnExactIsSimulationSaid : Prop := fnExactIsSimulationRow.holds Try.pinned (OpenSpec.ofChange fnExactIsSimulationSpec)

/-- ITS FALSE NEIGHBOUR: 'it returns false'. Refute it at one input. -/
def fnExactIsSimulationWrong : ChangeSpec := { name := "fnExactIsSimulation", fn := fun _ => fun
  | [d1, d2, d3] => { results := [.lit (.bool false)], args := [d1, d2, d3] }
  | _ => none }
def FnExactIsSimulationWrongFalsely : Prop := fnExactIsSimulationRow.holds Try.pinned (OpenSpec.ofChange fnExactIsSimulationWrong)

/-- 'laws.FnExactQuotientFrame': WHATEVER THE INPUT: true; the input reads as it did. -/
def fnExactQuotientFrameSpec : ChangeSpec := { name := "fnExactQuotientFrame", fn := fun _ => fun
  | [d1, d2] => { results := [.lit (.bool true)], args := [d1, d2] }
  | _ => none }
def fnExactQuotientFrameRow : OpenClaim := { program := "ytgcmfjliklcbdaa", sum := "44ab67a26e9a635e5186ba4abb5aa21d3c5ed9c932ebb45954fa08878c9ed3a5", func := "loop.example/g01089/laws.FnExactQuotientFrame", spec := "fnExactQuotientFrame", unfollowed := true, recurses := true, apart := false }
def FnExactQuotientFrameSaid : Prop := fnExactQuotientFrameRow.holds Try.pinned (OpenSpec.ofChange fnExactQuotientFrameSpec)

/-- ITS FALSE NEIGHBOUR: 'it returns false'. Refute it at one input. -/
def fnExactQuotientFrameWrong : ChangeSpec := { name := "fnExactQuotientFrame", fn := fun _ => fun
  | [d1, d2] => { results := [.lit (.bool false)], args := [d1, d2] }
  | _ => none }
def FnExactQuotientFrameWrongFalsely : Prop := fnExactQuotientFrameRow.holds Try.pinned (OpenSpec.ofChange fnExactQuotientFrameWrong)

/-- 'laws.FnExactIsBisimulation': WHATEVER THE INPUT: true; the input reads as it did. -/
def fnExactIsBisimulationSpec : ChangeSpec := { name := "fnExactIsBisimulation", fn := fun _ => fun
  | [d1, d2, d3] => { results := [.lit (.bool true)], args := [d1, d2, d3] }
  | _ => none }
def fnExactIsBisimulationRow : OpenClaim := { program := "ytgcmfjliklcbdaa", sum := "44ab67a26e9a635e5186ba4abb5aa21d3c5ed9c932ebb45954fa08878c9ed3a5", func := "loop.example/g01089/laws.FnExactIsBisimulation", spec := "fnExactIsBisimulation", unfollowed := true, recurses := true, apart := false }
def FnExactIsBisimulationSaid : Prop := fnExactIsBisimulationRow.holds Try.pinned (OpenSpec.ofChange fnExactIsBisimulationSpec)

/-- ITS FALSE NEIGHBOUR: 'it returns false'. Refute it at one input. -/
def fnExactIsBisimulationWrong : ChangeSpec := { name := "fnExactIsBisimulation", fn := fun _ => fun
  | [d1, d2, d3] => { results := [.lit (.bool false)], args := [d1, d2, d3] }
  | _ => none }
def FnExactIsBisimulationWrongFalsely : Prop := fnExactIsBisimulationRow.holds Try.pinned (OpenSpec.ofChange fnExactIsBisimulationWrong)

/-- 'laws.FnExactPartOfModel': WHATEVER THE INPUT: true; the input reads as it did. -/
def fnExactPartOfModelSpec : ChangeSpec := { name := "fnExactPartOfModel", fn := fun _ => fun
  | [d1, d2] => { results := [.lit (.bool true)], args := [d1, d2] }
  | _ => none }
def fnExactPartOfModelRow : OpenClaim := { program := "ytgcmfjliklcbdaa", sum := "44ab67a26e9a635e5186ba4abb5aa21d3c5ed9c932ebb45954fa08878c9ed3a5", func := "loop.example/g01089/laws.FnExactPartOfModel", spec := "fnExactPartOfModel", unfollowed := true, recurses := true, apart := false }
def FnExactPartOfModelSaid : Prop := fnExactPartOfModelRow.holds Try.pinned (OpenSpec.ofChange fnExactPartOfModelSpec)

/-- ITS FALSE NEIGHBOUR: 'it returns false'. Refute it at one input. -/
def fnExactPartOfModelWrong : ChangeSpec := { name := "fnExactPartOfModel", fn := fun _ => fun
  | [d1, d2] => { results := [.lit (.bool false)], args := [d1, d2] }
  | _ => none }
def FnExactPartOfModelWrongFalsely : Prop := fnExactPartOfModelRow.holds Try.pinned (OpenSpec.ofChange fnExactPartOfModelWrong)

/-- 'laws.FnExactModalQuotient': WHATEVER THE INPUT: true; the input reads as it did. -/
def fnExactModalQuotientSpec : ChangeSpec := { name := "fnExactModalQuotient", fn := fun _ => fun
  | [d1, d2] => { results := [.lit (.bool true)], args := [d1, d2] }
  | _ => none }
def fnExactModalQuotientRow : OpenClaim := { program := "ytgcmfjliklcbdaa", sum := "44ab67a26e9a635e5186ba4abb5aa21d3c5ed9c932ebb45954fa08878c9ed3a5", func := "loop.example/g01089/laws.FnExactModalQuotient", spec := "fnExactModalQuotient", unfollowed := true, recurses := true, apart := false }
def FnExactModalQuotientSaid : Prop := fnExactModalQuotientRow.holds Try.pinned (OpenSpec.ofChange fnExactModalQuotientSpec)

/-- ITS FALSE NEIGHBOUR: 'it returns false'. Refute it at one input. -/
def fnExactModalQuotientWrong : ChangeSpec := { name := "fnExactModalQuotient", fn := fun _ => fun
  | [d1, d2] => { results := [.lit (.bool false)], args := [d1, d2] }
  | _ => none }
def FnExactModalQuotientWrongFalsely : Prop := fnExactModalQuotientRow.holds Try.pinned (OpenSpec.ofChange fnExactModalQuotientWrong)

/- THE SECOND FORM. 'bulk': how many values and letters a reading holds, each counted each time it is reached (what is shared counts as often as it is met; a slice's spare places count too). A statement '..UptoSaid' is the law's where the arguments, and the package variables that the reading takes, are together of bulk at most 1048576: NARROWER than '..Said'. Prove '..Said' where nothing that the law and all that it calls make is longer than what came in: it says more and counts as full. Else prove '..UptoSaid'. A law counts once. -/
mutual
def uptoBulk {H : Type} : DataW H → Nat
  | .lit (.string bytes) => bytes.length + 1
  | .lit _ => 1
  | .nil => 1
  | .ptr d => uptoBulk d + 1
  | .slice elems spare => uptoBulkAll elems + uptoBulkAll spare + 1
  | .agg parts => uptoBulkAll parts + 1
  | .iface _ d => uptoBulk d + 1
  | .map entries => uptoBulkEntries entries + 1
  | .held _ => 1
def uptoBulkAll {H : Type} : List (DataW H) → Nat
  | [] => 0
  | d :: r => uptoBulk d + uptoBulkAll r
def uptoBulkEntries {H : Type} : List (Lit × DataW H) → Nat
  | [] => 0
  | x :: r => uptoBulkEntry x + uptoBulkEntries r
def uptoBulkEntry {H : Type} : Lit × DataW H → Nat
  | (.string bytes, d) => bytes.length + uptoBulk d + 1
  | (_, d) => uptoBulk d + 1
 end
def uptoSmall : (H : Type) → List (DataW H) → Bool := fun _ ds => decide (uptoBulkAll ds ≤ 1048576)
def OpenSpec.upto (s : _root_.Go.ChangeSpec) : _root_.Go.OpenSpec := { _root_.Go.OpenSpec.ofChange s with cond := some uptoSmall }

/-- 'laws.FnExactPartOfFrame', WHERE WHAT IT READS IS OF BULK AT MOST 1048576: true; the input reads as it did. -/
def fnExactPartOfFrameUptoRow : OpenClaim := { program := "ytgcmfjliklcbdaa", sum := "44ab67a26e9a635e5186ba4abb5aa21d3c5ed9c932ebb45954fa08878c9ed3a5", func := "loop.example/g01089/laws.FnExactPartOfFrame", spec := "fnExactPartOfFrame", unfollowed := true, recurses := true, apart := false, narrowed := true }
def FnExactPartOfFrameUptoSaid : Prop := fnExactPartOfFrameUptoRow.holds Try.pinned (OpenSpec.upto fnExactPartOfFrameSpec)

/-- 'laws.FnExactThenMorphisms', WHERE WHAT IT READS IS OF BULK AT MOST 1048576: true; the input reads as it did. -/
def fnExactThenMorphismsUptoRow : OpenClaim := { program := "ytgcmfjliklcbdaa", sum := "44ab67a26e9a635e5186ba4abb5aa21d3c5ed9c932ebb45954fa08878c9ed3a5", func := "loop.example/g01089/laws.FnExactThenMorphisms", spec := "fnExactThenMorphisms", unfollowed := true, recurses := true, apart := false, narrowed := true }
def FnExactThenMorphismsUptoSaid : Prop := fnExactThenMorphismsUptoRow.holds Try.pinned (OpenSpec.upto fnExactThenMorphismsSpec)

/-- 'laws.FnExactIsCongruence', WHERE WHAT IT READS IS OF BULK AT MOST 1048576: true; the input reads as it did. -/
def fnExactIsCongruenceUptoRow : OpenClaim := { program := "ytgcmfjliklcbdaa", sum := "44ab67a26e9a635e5186ba4abb5aa21d3c5ed9c932ebb45954fa08878c9ed3a5", func := "loop.example/g01089/laws.FnExactIsCongruence", spec := "fnExactIsCongruence", unfollowed := true, recurses := true, apart := false, narrowed := true }
def FnExactIsCongruenceUptoSaid : Prop := fnExactIsCongruenceUptoRow.holds Try.pinned (OpenSpec.upto fnExactIsCongruenceSpec)

/-- 'laws.FnExactDualHomomorphism', WHERE WHAT IT READS IS OF BULK AT MOST 1048576: true; the input reads as it did. -/
def fnExactDualHomomorphismUptoRow : OpenClaim := { program := "ytgcmfjliklcbdaa", sum := "44ab67a26e9a635e5186ba4abb5aa21d3c5ed9c932ebb45954fa08878c9ed3a5", func := "loop.example/g01089/laws.FnExactDualHomomorphism", spec := "fnExactDualHomomorphism", unfollowed := true, recurses := true, apart := false, narrowed := true }
def FnExactDualHomomorphismUptoSaid : Prop := fnExactDualHomomorphismUptoRow.holds Try.pinned (OpenSpec.upto fnExactDualHomomorphismSpec)

/-- 'laws.FnExactFrameOfAlgebra', WHERE WHAT IT READS IS OF BULK AT MOST 1048576: true; the input reads as it did. -/
def fnExactFrameOfAlgebraUptoRow : OpenClaim := { program := "ytgcmfjliklcbdaa", sum := "44ab67a26e9a635e5186ba4abb5aa21d3c5ed9c932ebb45954fa08878c9ed3a5", func := "loop.example/g01089/laws.FnExactFrameOfAlgebra", spec := "fnExactFrameOfAlgebra", unfollowed := true, recurses := true, apart := false, narrowed := true }
def FnExactFrameOfAlgebraUptoSaid : Prop := fnExactFrameOfAlgebraUptoRow.holds Try.pinned (OpenSpec.upto fnExactFrameOfAlgebraSpec)

/-- 'laws.FnExactIsModelMorphism', WHERE WHAT IT READS IS OF BULK AT MOST 1048576: true; the input reads as it did. -/
def fnExactIsModelMorphismUptoRow : OpenClaim := { program := "ytgcmfjliklcbdaa", sum := "44ab67a26e9a635e5186ba4abb5aa21d3c5ed9c932ebb45954fa08878c9ed3a5", func := "loop.example/g01089/laws.FnExactIsModelMorphism", spec := "fnExactIsModelMorphism", unfollowed := true, recurses := true, apart := false, narrowed := true }
def FnExactIsModelMorphismUptoSaid : Prop := fnExactIsModelMorphismUptoRow.holds Try.pinned (OpenSpec.upto fnExactIsModelMorphismSpec)

/-- 'laws.FnExactSumModels', WHERE WHAT IT READS IS OF BULK AT MOST 1048576: true; the input reads as it did. -/
def fnExactSumModelsUptoRow : OpenClaim := { program := "ytgcmfjliklcbdaa", sum := "44ab67a26e9a635e5186ba4abb5aa21d3c5ed9c932ebb45954fa08878c9ed3a5", func := "loop.example/g01089/laws.FnExactSumModels", spec := "fnExactSumModels", unfollowed := true, recurses := true, apart := false, narrowed := true }
def FnExactSumModelsUptoSaid : Prop := fnExactSumModelsUptoRow.holds Try.pinned (OpenSpec.upto fnExactSumModelsSpec)

/-- 'laws.FnExactIsSimulation', WHERE WHAT IT READS IS OF BULK AT MOST 1048576: true; the input reads as it did. -/
def fnExactIsSimulationUptoRow : OpenClaim := { program := "ytgcmfjliklcbdaa", sum := "44ab67a26e9a635e5186ba4abb5aa21d3c5ed9c932ebb45954fa08878c9ed3a5", func := "loop.example/g01089/laws.FnExactIsSimulation", spec := "fnExactIsSimulation", unfollowed := true, recurses := true, apart := false, narrowed := true }
def FnExactIsSimulationUptoSaid : Prop := fnExactIsSimulationUptoRow.holds Try.pinned (OpenSpec.upto fnExactIsSimulationSpec)

/-- 'laws.FnExactQuotientFrame', WHERE WHAT IT READS IS OF BULK AT MOST 1048576: true; the input reads as it did. -/
def fnExactQuotientFrameUptoRow : OpenClaim := { program := "ytgcmfjliklcbdaa", sum := "44ab67a26e9a635e5186ba4abb5aa21d3c5ed9c932ebb45954fa08878c9ed3a5", func := "loop.example/g01089/laws.FnExactQuotientFrame", spec := "fnExactQuotientFrame", unfollowed := true, recurses := true, apart := false, narrowed := true }
def FnExactQuotientFrameUptoSaid : Prop := fnExactQuotientFrameUptoRow.holds Try.pinned (OpenSpec.upto fnExactQuotientFrameSpec)

/-- 'laws.FnExactIsBisimulation', WHERE WHAT IT READS IS OF BULK AT MOST 1048576: true; the input reads as it did. -/
def fnExactIsBisimulationUptoRow : OpenClaim := { program := "ytgcmfjliklcbdaa", sum := "44ab67a26e9a635e5186ba4abb5aa21d3c5ed9c932ebb45954fa08878c9ed3a5", func := "loop.example/g01089/laws.FnExactIsBisimulation", spec := "fnExactIsBisimulation", unfollowed := true, recurses := true, apart := false, narrowed := true }
def FnExactIsBisimulationUptoSaid : Prop := fnExactIsBisimulationUptoRow.holds Try.pinned (OpenSpec.upto fnExactIsBisimulationSpec)

/-- 'laws.FnExactPartOfModel', WHERE WHAT IT READS IS OF BULK AT MOST 1048576: true; the input reads as it did. -/
def fnExactPartOfModelUptoRow : OpenClaim := { program := "ytgcmfjliklcbdaa", sum := "44ab67a26e9a635e5186ba4abb5aa21d3c5ed9c932ebb45954fa08878c9ed3a5", func := "loop.example/g01089/laws.FnExactPartOfModel", spec := "fnExactPartOfModel", unfollowed := true, recurses := true, apart := false, narrowed := true }
def FnExactPartOfModelUptoSaid : Prop := fnExactPartOfModelUptoRow.holds Try.pinned (OpenSpec.upto fnExactPartOfModelSpec)

/-- 'laws.FnExactModalQuotient', WHERE WHAT IT READS IS OF BULK AT MOST 1048576: true; the input reads as it did. -/
def fnExactModalQuotientUptoRow : OpenClaim := { program := "ytgcmfjliklcbdaa", sum := "44ab67a26e9a635e5186ba4abb5aa21d3c5ed9c932ebb45954fa08878c9ed3a5", func := "loop.example/g01089/laws.FnExactModalQuotient", spec := "fnExactModalQuotient", unfollowed := true, recurses := true, apart := false, narrowed := true }
def FnExactModalQuotientUptoSaid : Prop := fnExactModalQuotientUptoRow.holds Try.pinned (OpenSpec.upto fnExactModalQuotientSpec)

end Rows
end Go.Proofs.Ytgcmfjliklcbdaa
