/-
  No cell of these rows narrows 'for every input' (looked for: loops, veiled, ifaces, maps, wideKeys, modest, calm, conditions, laid).
  DERIVED. THE GIVEN ROWS OF THIS SEAT. 11 by the template 'for every input the law returns true; each argument reads behind the call as it read before'; 0 by the template 'total and deterministic' (their statements: YtkilkfhjfobcdaaTotals.lean).
  GIVEN WITH THE SEED: the statements are not yours to turn. If you find one false, say at which input.
  Laid BY PROGRAM, IN A SANDBOX (cutbox-rows.mjs): the forced cells as the released guide's own fill.sh prints them over the translation b0cb0e423982af19… (all of the seat's roots in one cut). By AI agents, Wed Nov 11 2026. No macro, syntax, notation, axiom, sorry.
-/
import Derived.Test.YtkilkfhjfobcdaaChecked
import GoSem.Claim
import GoSem.ClaimJoined
import GoSem.ClaimMapViews
import Derived.JoinedTies
import Derived.KernelRfl
namespace Go.Proofs.Ytkilkfhjfobcdaa
/- THE CELL 'sum', in the pinned program and in every row, IS THE sha256 OF THE DUMP (.gsa) THAT YtkilkfhjfobcdaaProg.lean LOADS. Nothing in Lean hashes anything: it is a label: what it is worth is what the hold of that sum in a sandbox is worth. -/
noncomputable def Try.pinned : Pinned := { name := "ytkilkfhjfobcdaa", sum := "b0cb0e423982af1931c7aead5105520a1097e70056ebdeaf6bc9ef913857eca9", checked := Try.checked }
namespace Rows
def none {H : Type} : Left H := { results := [], args := [] }

/-- 'laws.FnExactComposeRelations': WHATEVER THE INPUT: true; the input reads as it did. -/
def fnExactComposeRelationsSpec : ChangeSpec := { name := "fnExactComposeRelations", fn := fun _ => fun
  | [d1, d2] => { results := [.lit (.bool true)], args := [d1, d2] }
  | _ => none }
def fnExactComposeRelationsRow : OpenClaim := { program := "ytkilkfhjfobcdaa", sum := "b0cb0e423982af1931c7aead5105520a1097e70056ebdeaf6bc9ef913857eca9", func := "loop.example/g01089/laws.FnExactComposeRelations", spec := "fnExactComposeRelations", unfollowed := true, recurses := true, apart := false }
def FnExactComposeRelationsSaid : Prop := fnExactComposeRelationsRow.holds Try.pinned (OpenSpec.ofChange fnExactComposeRelationsSpec)

/-- ITS FALSE NEIGHBOUR: 'it returns false'. Refute it at one input. -/
def fnExactComposeRelationsWrong : ChangeSpec := { name := "fnExactComposeRelations", fn := fun _ => fun
  | [d1, d2] => { results := [.lit (.bool false)], args := [d1, d2] }
  | _ => none }
def FnExactComposeRelationsWrongFalsely : Prop := fnExactComposeRelationsRow.holds Try.pinned (OpenSpec.ofChange fnExactComposeRelationsWrong)

/-- 'laws.FnExactPartEnd': WHATEVER THE INPUT: true; the input reads as it did. -/
def fnExactPartEndSpec : ChangeSpec := { name := "fnExactPartEnd", fn := fun _ => fun
  | [d1, d2] => { results := [.lit (.bool true)], args := [d1, d2] }
  | _ => none }
def fnExactPartEndRow : OpenClaim := { program := "ytkilkfhjfobcdaa", sum := "b0cb0e423982af1931c7aead5105520a1097e70056ebdeaf6bc9ef913857eca9", func := "loop.example/g01089/laws.FnExactPartEnd", spec := "fnExactPartEnd", unfollowed := true, recurses := true, apart := false }
def FnExactPartEndSaid : Prop := fnExactPartEndRow.holds Try.pinned (OpenSpec.ofChange fnExactPartEndSpec)

/-- ITS FALSE NEIGHBOUR: 'it returns false'. Refute it at one input. -/
def fnExactPartEndWrong : ChangeSpec := { name := "fnExactPartEnd", fn := fun _ => fun
  | [d1, d2] => { results := [.lit (.bool false)], args := [d1, d2] }
  | _ => none }
def FnExactPartEndWrongFalsely : Prop := fnExactPartEndRow.holds Try.pinned (OpenSpec.ofChange fnExactPartEndWrong)

/-- 'laws.FnExactNodePolarity': WHATEVER THE INPUT: true; the input reads as it did. -/
def fnExactNodePolaritySpec : ChangeSpec := { name := "fnExactNodePolarity", fn := fun _ => fun
  | [d1, d2] => { results := [.lit (.bool true)], args := [d1, d2] }
  | _ => none }
def fnExactNodePolarityRow : OpenClaim := { program := "ytkilkfhjfobcdaa", sum := "b0cb0e423982af1931c7aead5105520a1097e70056ebdeaf6bc9ef913857eca9", func := "loop.example/g01089/laws.FnExactNodePolarity", spec := "fnExactNodePolarity", unfollowed := true, recurses := true, apart := false }
def FnExactNodePolaritySaid : Prop := fnExactNodePolarityRow.holds Try.pinned (OpenSpec.ofChange fnExactNodePolaritySpec)

/-- ITS FALSE NEIGHBOUR: 'it returns false'. Refute it at one input. -/
def fnExactNodePolarityWrong : ChangeSpec := { name := "fnExactNodePolarity", fn := fun _ => fun
  | [d1, d2] => { results := [.lit (.bool false)], args := [d1, d2] }
  | _ => none }
def FnExactNodePolarityWrongFalsely : Prop := fnExactNodePolarityRow.holds Try.pinned (OpenSpec.ofChange fnExactNodePolarityWrong)

/-- 'laws.FnExactNotFormula': WHATEVER THE INPUT: true; the input reads as it did. -/
def fnExactNotFormulaSpec : ChangeSpec := { name := "fnExactNotFormula", fn := fun _ => fun
  | [d] => { results := [.lit (.bool true)], args := [d] }
  | _ => none }
def fnExactNotFormulaRow : OpenClaim := { program := "ytkilkfhjfobcdaa", sum := "b0cb0e423982af1931c7aead5105520a1097e70056ebdeaf6bc9ef913857eca9", func := "loop.example/g01089/laws.FnExactNotFormula", spec := "fnExactNotFormula", unfollowed := true, recurses := true, apart := false }
def FnExactNotFormulaSaid : Prop := fnExactNotFormulaRow.holds Try.pinned (OpenSpec.ofChange fnExactNotFormulaSpec)

/-- ITS FALSE NEIGHBOUR: 'it returns false'. Refute it at one input. -/
def fnExactNotFormulaWrong : ChangeSpec := { name := "fnExactNotFormula", fn := fun _ => fun
  | [d] => { results := [.lit (.bool false)], args := [d] }
  | _ => none }
def FnExactNotFormulaWrongFalsely : Prop := fnExactNotFormulaRow.holds Try.pinned (OpenSpec.ofChange fnExactNotFormulaWrong)

/-- 'laws.FnExactReplacePart': WHATEVER THE INPUT: true; the input reads as it did. -/
def fnExactReplacePartSpec : ChangeSpec := { name := "fnExactReplacePart", fn := fun _ => fun
  | [d1, d2, d3] => { results := [.lit (.bool true)], args := [d1, d2, d3] }
  | _ => none }
def fnExactReplacePartRow : OpenClaim := { program := "ytkilkfhjfobcdaa", sum := "b0cb0e423982af1931c7aead5105520a1097e70056ebdeaf6bc9ef913857eca9", func := "loop.example/g01089/laws.FnExactReplacePart", spec := "fnExactReplacePart", unfollowed := true, recurses := true, apart := false }
def FnExactReplacePartSaid : Prop := fnExactReplacePartRow.holds Try.pinned (OpenSpec.ofChange fnExactReplacePartSpec)

/-- ITS FALSE NEIGHBOUR: 'it returns false'. Refute it at one input. -/
def fnExactReplacePartWrong : ChangeSpec := { name := "fnExactReplacePart", fn := fun _ => fun
  | [d1, d2, d3] => { results := [.lit (.bool false)], args := [d1, d2, d3] }
  | _ => none }
def FnExactReplacePartWrongFalsely : Prop := fnExactReplacePartRow.holds Try.pinned (OpenSpec.ofChange fnExactReplacePartWrong)

/-- 'laws.FnExactNegationNormal': WHATEVER THE INPUT: true; the input reads as it did. -/
def fnExactNegationNormalSpec : ChangeSpec := { name := "fnExactNegationNormal", fn := fun _ => fun
  | [d1, d2] => { results := [.lit (.bool true)], args := [d1, d2] }
  | _ => none }
def fnExactNegationNormalRow : OpenClaim := { program := "ytkilkfhjfobcdaa", sum := "b0cb0e423982af1931c7aead5105520a1097e70056ebdeaf6bc9ef913857eca9", func := "loop.example/g01089/laws.FnExactNegationNormal", spec := "fnExactNegationNormal", unfollowed := true, recurses := true, apart := false }
def FnExactNegationNormalSaid : Prop := fnExactNegationNormalRow.holds Try.pinned (OpenSpec.ofChange fnExactNegationNormalSpec)

/-- ITS FALSE NEIGHBOUR: 'it returns false'. Refute it at one input. -/
def fnExactNegationNormalWrong : ChangeSpec := { name := "fnExactNegationNormal", fn := fun _ => fun
  | [d1, d2] => { results := [.lit (.bool false)], args := [d1, d2] }
  | _ => none }
def FnExactNegationNormalWrongFalsely : Prop := fnExactNegationNormalRow.holds Try.pinned (OpenSpec.ofChange fnExactNegationNormalWrong)

/-- 'laws.FnExactClausesFormula': WHATEVER THE INPUT: true; the input reads as it did. -/
def fnExactClausesFormulaSpec : ChangeSpec := { name := "fnExactClausesFormula", fn := fun _ => fun
  | [d] => { results := [.lit (.bool true)], args := [d] }
  | _ => none }
def fnExactClausesFormulaRow : OpenClaim := { program := "ytkilkfhjfobcdaa", sum := "b0cb0e423982af1931c7aead5105520a1097e70056ebdeaf6bc9ef913857eca9", func := "loop.example/g01089/laws.FnExactClausesFormula", spec := "fnExactClausesFormula", unfollowed := true, recurses := true, apart := false }
def FnExactClausesFormulaSaid : Prop := fnExactClausesFormulaRow.holds Try.pinned (OpenSpec.ofChange fnExactClausesFormulaSpec)

/-- ITS FALSE NEIGHBOUR: 'it returns false'. Refute it at one input. -/
def fnExactClausesFormulaWrong : ChangeSpec := { name := "fnExactClausesFormula", fn := fun _ => fun
  | [d] => { results := [.lit (.bool false)], args := [d] }
  | _ => none }
def FnExactClausesFormulaWrongFalsely : Prop := fnExactClausesFormulaRow.holds Try.pinned (OpenSpec.ofChange fnExactClausesFormulaWrong)

/-- 'laws.FnExactFrameHolds': WHATEVER THE INPUT: true; the input reads as it did. -/
def fnExactFrameHoldsSpec : ChangeSpec := { name := "fnExactFrameHolds", fn := fun _ => fun
  | [d1, d2] => { results := [.lit (.bool true)], args := [d1, d2] }
  | _ => none }
def fnExactFrameHoldsRow : OpenClaim := { program := "ytkilkfhjfobcdaa", sum := "b0cb0e423982af1931c7aead5105520a1097e70056ebdeaf6bc9ef913857eca9", func := "loop.example/g01089/laws.FnExactFrameHolds", spec := "fnExactFrameHolds", unfollowed := true, recurses := true, apart := false }
def FnExactFrameHoldsSaid : Prop := fnExactFrameHoldsRow.holds Try.pinned (OpenSpec.ofChange fnExactFrameHoldsSpec)

/-- ITS FALSE NEIGHBOUR: 'it returns false'. Refute it at one input. -/
def fnExactFrameHoldsWrong : ChangeSpec := { name := "fnExactFrameHolds", fn := fun _ => fun
  | [d1, d2] => { results := [.lit (.bool false)], args := [d1, d2] }
  | _ => none }
def FnExactFrameHoldsWrongFalsely : Prop := fnExactFrameHoldsRow.holds Try.pinned (OpenSpec.ofChange fnExactFrameHoldsWrong)

/-- 'laws.FnExactPointsHold': WHATEVER THE INPUT: true; the input reads as it did. -/
def fnExactPointsHoldSpec : ChangeSpec := { name := "fnExactPointsHold", fn := fun _ => fun
  | [d1, d2, d3] => { results := [.lit (.bool true)], args := [d1, d2, d3] }
  | _ => none }
def fnExactPointsHoldRow : OpenClaim := { program := "ytkilkfhjfobcdaa", sum := "b0cb0e423982af1931c7aead5105520a1097e70056ebdeaf6bc9ef913857eca9", func := "loop.example/g01089/laws.FnExactPointsHold", spec := "fnExactPointsHold", unfollowed := true, recurses := true, apart := false }
def FnExactPointsHoldSaid : Prop := fnExactPointsHoldRow.holds Try.pinned (OpenSpec.ofChange fnExactPointsHoldSpec)

/-- ITS FALSE NEIGHBOUR: 'it returns false'. Refute it at one input. -/
def fnExactPointsHoldWrong : ChangeSpec := { name := "fnExactPointsHold", fn := fun _ => fun
  | [d1, d2, d3] => { results := [.lit (.bool false)], args := [d1, d2, d3] }
  | _ => none }
def FnExactPointsHoldWrongFalsely : Prop := fnExactPointsHoldRow.holds Try.pinned (OpenSpec.ofChange fnExactPointsHoldWrong)

/-- 'laws.FnExactChainAlgebra': WHATEVER THE INPUT: true; the input reads as it did. -/
def fnExactChainAlgebraSpec : ChangeSpec := { name := "fnExactChainAlgebra", fn := fun _ => fun
  | [d] => { results := [.lit (.bool true)], args := [d] }
  | _ => none }
def fnExactChainAlgebraRow : OpenClaim := { program := "ytkilkfhjfobcdaa", sum := "b0cb0e423982af1931c7aead5105520a1097e70056ebdeaf6bc9ef913857eca9", func := "loop.example/g01089/laws.FnExactChainAlgebra", spec := "fnExactChainAlgebra", unfollowed := true, recurses := true, apart := false }
def FnExactChainAlgebraSaid : Prop := fnExactChainAlgebraRow.holds Try.pinned (OpenSpec.ofChange fnExactChainAlgebraSpec)

/-- ITS FALSE NEIGHBOUR: 'it returns false'. Refute it at one input. -/
def fnExactChainAlgebraWrong : ChangeSpec := { name := "fnExactChainAlgebra", fn := fun _ => fun
  | [d] => { results := [.lit (.bool false)], args := [d] }
  | _ => none }
def FnExactChainAlgebraWrongFalsely : Prop := fnExactChainAlgebraRow.holds Try.pinned (OpenSpec.ofChange fnExactChainAlgebraWrong)

/-- 'laws.FnBuilding': WHATEVER THE INPUT: true; the input reads as it did. -/
def fnBuildingSpec : ChangeSpec := { name := "fnBuilding", fn := fun _ => fun
  | [d] => { results := [.lit (.bool true)], args := [d] }
  | _ => none }
def fnBuildingRow : OpenClaim := { program := "ytkilkfhjfobcdaa", sum := "b0cb0e423982af1931c7aead5105520a1097e70056ebdeaf6bc9ef913857eca9", func := "loop.example/g01089/laws.FnBuilding", spec := "fnBuilding", unfollowed := true, recurses := true, apart := false }
def FnBuildingSaid : Prop := fnBuildingRow.holds Try.pinned (OpenSpec.ofChange fnBuildingSpec)

/-- ITS FALSE NEIGHBOUR: 'it returns false'. Refute it at one input. -/
def fnBuildingWrong : ChangeSpec := { name := "fnBuilding", fn := fun _ => fun
  | [d] => { results := [.lit (.bool false)], args := [d] }
  | _ => none }
def FnBuildingWrongFalsely : Prop := fnBuildingRow.holds Try.pinned (OpenSpec.ofChange fnBuildingWrong)

/- THE SECOND FORM. 'bulk': how many values and letters a reading holds, each counted each time it is reached (what is shared counts as often as it is met; a slice's spare places count too). A statement '..UptoSaid' is the law's where the arguments, and the package variables that the reading takes, are together of bulk at most 1048576: NARROWER than '..Said'. Prove '..Said' where nothing that the law and all that it calls make is longer than what came in: it says more and counts as full. Else prove '..UptoSaid'. A law counts once. -/
mutual
def uptoBulk {H : Type} : DataW H → Nat
  | .lit (.string bytes) => bytes.length + 1
  | .lit _ => 1
  | .nil => 1
  | .ptr d => uptoBulk d + 1
  | .slice elems spare => uptoBulkAll elems + uptoBulkAll spare + 1
  | .agg parts => uptoBulkAll parts + 1
  | .iface _ d => uptoBulk d + 1
  | .map entries => uptoBulkEntries entries + 1
  | .held _ => 1
def uptoBulkAll {H : Type} : List (DataW H) → Nat
  | [] => 0
  | d :: r => uptoBulk d + uptoBulkAll r
def uptoBulkEntries {H : Type} : List (Lit × DataW H) → Nat
  | [] => 0
  | x :: r => uptoBulkEntry x + uptoBulkEntries r
def uptoBulkEntry {H : Type} : Lit × DataW H → Nat
  | (.string bytes, d) => bytes.length + uptoBulk d + 1
  | (_, d) => uptoBulk d + 1
 end
def uptoSmall : (H : Type) → List (DataW H) → Bool := fun _ ds => decide (uptoBulkAll ds ≤ 1048576)
def OpenSpec.upto (s : _root_.Go.ChangeSpec) : _root_.Go.OpenSpec := { _root_.Go.OpenSpec.ofChange s with cond := some uptoSmall }

/-- 'laws.FnExactComposeRelations', WHERE WHAT IT READS IS OF BULK AT MOST 1048576: true; the input reads as it did. -/
def fnExactComposeRelationsUptoRow : OpenClaim := { program := "ytkilkfhjfobcdaa", sum := "b0cb0e423982af1931c7aead5105520a1097e70056ebdeaf6bc9ef913857eca9", func := "loop.example/g01089/laws.FnExactComposeRelations", spec := "fnExactComposeRelations", unfollowed := true, recurses := true, apart := false, narrowed := true }
def FnExactComposeRelationsUptoSaid : Prop := fnExactComposeRelationsUptoRow.holds Try.pinned (OpenSpec.upto fnExactComposeRelationsSpec)

/-- 'laws.FnExactPartEnd', WHERE WHAT IT READS IS OF BULK AT MOST 1048576: true; the input reads as it did. -/
def fnExactPartEndUptoRow : OpenClaim := { program := "ytkilkfhjfobcdaa", sum := "b0cb0e423982af1931c7aead5105520a1097e70056ebdeaf6bc9ef913857eca9", func := "loop.example/g01089/laws.FnExactPartEnd", spec := "fnExactPartEnd", unfollowed := true, recurses := true, apart := false, narrowed := true }
def FnExactPartEndUptoSaid : Prop := fnExactPartEndUptoRow.holds Try.pinned (OpenSpec.upto fnExactPartEndSpec)

/-- 'laws.FnExactNodePolarity', WHERE WHAT IT READS IS OF BULK AT MOST 1048576: true; the input reads as it did. -/
def fnExactNodePolarityUptoRow : OpenClaim := { program := "ytkilkfhjfobcdaa", sum := "b0cb0e423982af1931c7aead5105520a1097e70056ebdeaf6bc9ef913857eca9", func := "loop.example/g01089/laws.FnExactNodePolarity", spec := "fnExactNodePolarity", unfollowed := true, recurses := true, apart := false, narrowed := true }
def FnExactNodePolarityUptoSaid : Prop := fnExactNodePolarityUptoRow.holds Try.pinned (OpenSpec.upto fnExactNodePolaritySpec)

/-- 'laws.FnExactNotFormula', WHERE WHAT IT READS IS OF BULK AT MOST 1048576: true; the input reads as it did. -/
def fnExactNotFormulaUptoRow : OpenClaim := { program := "ytkilkfhjfobcdaa", sum := "b0cb0e423982af1931c7aead5105520a1097e70056ebdeaf6bc9ef913857eca9", func := "loop.example/g01089/laws.FnExactNotFormula", spec := "fnExactNotFormula", unfollowed := true, recurses := true, apart := false, narrowed := true }
def FnExactNotFormulaUptoSaid : Prop := fnExactNotFormulaUptoRow.holds Try.pinned (OpenSpec.upto fnExactNotFormulaSpec)

/-- 'laws.FnExactReplacePart', WHERE WHAT IT READS IS OF BULK AT MOST 1048576: true; the input reads as it did. -/
def fnExactReplacePartUptoRow : OpenClaim := { program := "ytkilkfhjfobcdaa", sum := "b0cb0e423982af1931c7aead5105520a1097e70056ebdeaf6bc9ef913857eca9", func := "loop.example/g01089/laws.FnExactReplacePart", spec := "fnExactReplacePart", unfollowed := true, recurses := true, apart := false, narrowed := true }
def FnExactReplacePartUptoSaid : Prop := fnExactReplacePartUptoRow.holds Try.pinned (OpenSpec.upto fnExactReplacePartSpec)

/-- 'laws.FnExactNegationNormal', WHERE WHAT IT READS IS OF BULK AT MOST 1048576: true; the input reads as it did. -/
def fnExactNegationNormalUptoRow : OpenClaim := { program := "ytkilkfhjfobcdaa", sum := "b0cb0e423982af1931c7aead5105520a1097e70056ebdeaf6bc9ef913857eca9", func := "loop.example/g01089/laws.FnExactNegationNormal", spec := "fnExactNegationNormal", unfollowed := true, recurses := true, apart := false, narrowed := true }
def FnExactNegationNormalUptoSaid : Prop := fnExactNegationNormalUptoRow.holds Try.pinned (OpenSpec.upto fnExactNegationNormalSpec)

/-- 'laws.FnExactClausesFormula', WHERE WHAT IT READS IS OF BULK AT MOST 1048576: true; the input reads as it did. -/
def fnExactClausesFormulaUptoRow : OpenClaim := { program := "ytkilkfhjfobcdaa", sum := "b0cb0e423982af1931c7aead5105520a1097e70056ebdeaf6bc9ef913857eca9", func := "loop.example/g01089/laws.FnExactClausesFormula", spec := "fnExactClausesFormula", unfollowed := true, recurses := true, apart := false, narrowed := true }
def FnExactClausesFormulaUptoSaid : Prop := fnExactClausesFormulaUptoRow.holds Try.pinned (OpenSpec.upto fnExactClausesFormulaSpec)

/-- 'laws.FnExactFrameHolds', WHERE WHAT IT READS IS OF BULK AT MOST 1048576: true; the input reads as it did. -/
def fnExactFrameHoldsUptoRow : OpenClaim := { program := "ytkilkfhjfobcdaa", sum := "b0cb0e423982af1931c7aead5105520a1097e70056ebdeaf6bc9ef913857eca9", func := "loop.example/g01089/laws.FnExactFrameHolds", spec := "fnExactFrameHolds", unfollowed := true, recurses := true, apart := false, narrowed := true }
def FnExactFrameHoldsUptoSaid : Prop := fnExactFrameHoldsUptoRow.holds Try.pinned (OpenSpec.upto fnExactFrameHoldsSpec)

/-- 'laws.FnExactPointsHold', WHERE WHAT IT READS IS OF BULK AT MOST 1048576: true; the input reads as it did. -/
def fnExactPointsHoldUptoRow : OpenClaim := { program := "ytkilkfhjfobcdaa", sum := "b0cb0e423982af1931c7aead5105520a1097e70056ebdeaf6bc9ef913857eca9", func := "loop.example/g01089/laws.FnExactPointsHold", spec := "fnExactPointsHold", unfollowed := true, recurses := true, apart := false, narrowed := true }
def FnExactPointsHoldUptoSaid : Prop := fnExactPointsHoldUptoRow.holds Try.pinned (OpenSpec.upto fnExactPointsHoldSpec)

/-- 'laws.FnExactChainAlgebra', WHERE WHAT IT READS IS OF BULK AT MOST 1048576: true; the input reads as it did. -/
def fnExactChainAlgebraUptoRow : OpenClaim := { program := "ytkilkfhjfobcdaa", sum := "b0cb0e423982af1931c7aead5105520a1097e70056ebdeaf6bc9ef913857eca9", func := "loop.example/g01089/laws.FnExactChainAlgebra", spec := "fnExactChainAlgebra", unfollowed := true, recurses := true, apart := false, narrowed := true }
def FnExactChainAlgebraUptoSaid : Prop := fnExactChainAlgebraUptoRow.holds Try.pinned (OpenSpec.upto fnExactChainAlgebraSpec)

/-- 'laws.FnBuilding', WHERE WHAT IT READS IS OF BULK AT MOST 1048576: true; the input reads as it did. -/
def fnBuildingUptoRow : OpenClaim := { program := "ytkilkfhjfobcdaa", sum := "b0cb0e423982af1931c7aead5105520a1097e70056ebdeaf6bc9ef913857eca9", func := "loop.example/g01089/laws.FnBuilding", spec := "fnBuilding", unfollowed := true, recurses := true, apart := false, narrowed := true }
def FnBuildingUptoSaid : Prop := fnBuildingUptoRow.holds Try.pinned (OpenSpec.upto fnBuildingSpec)

end Rows
end Go.Proofs.Ytkilkfhjfobcdaa
