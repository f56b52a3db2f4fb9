/-
  No cell of these rows narrows 'for every input' (looked for: loops, veiled, ifaces, maps, wideKeys, modest, calm, conditions, laid).
  DERIVED. THE GIVEN ROWS OF THIS SEAT. 12 by the template 'for every input the law returns true; each argument reads behind the call as it read before'; 0 by the template 'total and deterministic' (their statements: YtfilpikakdlgbaaTotals.lean).
  GIVEN WITH THE SEED: the statements are not yours to turn. If you find one false, say at which input.
  Laid BY PROGRAM, IN A SANDBOX (cutbox-rows.mjs): the forced cells as the released guide's own fill.sh prints them over the translation 200ce1e168104f55… (all of the seat's roots in one cut). By AI agents, Wed Nov 11 2026. No macro, syntax, notation, axiom, sorry.
-/
import Derived.Test.YtfilpikakdlgbaaChecked
import GoSem.Claim
import GoSem.ClaimJoined
import GoSem.ClaimMapViews
import Derived.JoinedTies
import Derived.KernelRfl
namespace Go.Proofs.Ytfilpikakdlgbaa
/- THE CELL 'sum', in the pinned program and in every row, IS THE sha256 OF THE DUMP (.gsa) THAT YtfilpikakdlgbaaProg.lean LOADS. Nothing in Lean hashes anything: it is a label: what it is worth is what the hold of that sum in a sandbox is worth. -/
noncomputable def Try.pinned : Pinned := { name := "ytfilpikakdlgbaa", sum := "200ce1e168104f555254af6e5545d36a91b740fcad96c30bb8b9713ea88ed09d", checked := Try.checked }
namespace Rows
def none {H : Type} : Left H := { results := [], args := [] }

/-- 'laws.FnExactPartEnd': WHATEVER THE INPUT: true; the input reads as it did. -/
def fnExactPartEndSpec : ChangeSpec := { name := "fnExactPartEnd", fn := fun _ => fun
  | [d1, d2] => { results := [.lit (.bool true)], args := [d1, d2] }
  | _ => none }
def fnExactPartEndRow : OpenClaim := { program := "ytfilpikakdlgbaa", sum := "200ce1e168104f555254af6e5545d36a91b740fcad96c30bb8b9713ea88ed09d", func := "loop.example/g01089/laws.FnExactPartEnd", spec := "fnExactPartEnd", unfollowed := true, recurses := true, apart := false }
def FnExactPartEndSaid : Prop := fnExactPartEndRow.holds Try.pinned (OpenSpec.ofChange fnExactPartEndSpec)

/-- ITS FALSE NEIGHBOUR: 'it returns false'. Refute it at one input. -/
def fnExactPartEndWrong : ChangeSpec := { name := "fnExactPartEnd", fn := fun _ => fun
  | [d1, d2] => { results := [.lit (.bool false)], args := [d1, d2] }
  | _ => none }
def FnExactPartEndWrongFalsely : Prop := fnExactPartEndRow.holds Try.pinned (OpenSpec.ofChange fnExactPartEndWrong)

/-- 'laws.FnExactTransitiveClosure': WHATEVER THE INPUT: true; the input reads as it did. -/
def fnExactTransitiveClosureSpec : ChangeSpec := { name := "fnExactTransitiveClosure", fn := fun _ => fun
  | [d] => { results := [.lit (.bool true)], args := [d] }
  | _ => none }
def fnExactTransitiveClosureRow : OpenClaim := { program := "ytfilpikakdlgbaa", sum := "200ce1e168104f555254af6e5545d36a91b740fcad96c30bb8b9713ea88ed09d", func := "loop.example/g01089/laws.FnExactTransitiveClosure", spec := "fnExactTransitiveClosure", unfollowed := true, recurses := true, apart := false }
def FnExactTransitiveClosureSaid : Prop := fnExactTransitiveClosureRow.holds Try.pinned (OpenSpec.ofChange fnExactTransitiveClosureSpec)

/-- ITS FALSE NEIGHBOUR: 'it returns false'. Refute it at one input. -/
def fnExactTransitiveClosureWrong : ChangeSpec := { name := "fnExactTransitiveClosure", fn := fun _ => fun
  | [d] => { results := [.lit (.bool false)], args := [d] }
  | _ => none }
def FnExactTransitiveClosureWrongFalsely : Prop := fnExactTransitiveClosureRow.holds Try.pinned (OpenSpec.ofChange fnExactTransitiveClosureWrong)

/-- 'laws.FnExactComposeRelations': WHATEVER THE INPUT: true; the input reads as it did. -/
def fnExactComposeRelationsSpec : ChangeSpec := { name := "fnExactComposeRelations", fn := fun _ => fun
  | [d1, d2] => { results := [.lit (.bool true)], args := [d1, d2] }
  | _ => none }
def fnExactComposeRelationsRow : OpenClaim := { program := "ytfilpikakdlgbaa", sum := "200ce1e168104f555254af6e5545d36a91b740fcad96c30bb8b9713ea88ed09d", func := "loop.example/g01089/laws.FnExactComposeRelations", spec := "fnExactComposeRelations", unfollowed := true, recurses := true, apart := false }
def FnExactComposeRelationsSaid : Prop := fnExactComposeRelationsRow.holds Try.pinned (OpenSpec.ofChange fnExactComposeRelationsSpec)

/-- ITS FALSE NEIGHBOUR: 'it returns false'. Refute it at one input. -/
def fnExactComposeRelationsWrong : ChangeSpec := { name := "fnExactComposeRelations", fn := fun _ => fun
  | [d1, d2] => { results := [.lit (.bool false)], args := [d1, d2] }
  | _ => none }
def FnExactComposeRelationsWrongFalsely : Prop := fnExactComposeRelationsRow.holds Try.pinned (OpenSpec.ofChange fnExactComposeRelationsWrong)

/-- 'laws.FnExactIsHomomorphism': WHATEVER THE INPUT: true; the input reads as it did. -/
def fnExactIsHomomorphismSpec : ChangeSpec := { name := "fnExactIsHomomorphism", fn := fun _ => fun
  | [d1, d2, d3] => { results := [.lit (.bool true)], args := [d1, d2, d3] }
  | _ => none }
def fnExactIsHomomorphismRow : OpenClaim := { program := "ytfilpikakdlgbaa", sum := "200ce1e168104f555254af6e5545d36a91b740fcad96c30bb8b9713ea88ed09d", func := "loop.example/g01089/laws.FnExactIsHomomorphism", spec := "fnExactIsHomomorphism", unfollowed := true, recurses := true, apart := false }
def FnExactIsHomomorphismSaid : Prop := fnExactIsHomomorphismRow.holds Try.pinned (OpenSpec.ofChange fnExactIsHomomorphismSpec)

/-- ITS FALSE NEIGHBOUR: 'it returns false'. Refute it at one input. -/
def fnExactIsHomomorphismWrong : ChangeSpec := { name := "fnExactIsHomomorphism", fn := fun _ => fun
  | [d1, d2, d3] => { results := [.lit (.bool false)], args := [d1, d2, d3] }
  | _ => none }
def FnExactIsHomomorphismWrongFalsely : Prop := fnExactIsHomomorphismRow.holds Try.pinned (OpenSpec.ofChange fnExactIsHomomorphismWrong)

/-- 'laws.FnExactOpenElements': WHATEVER THE INPUT: true; the input reads as it did. -/
def fnExactOpenElementsSpec : ChangeSpec := { name := "fnExactOpenElements", fn := fun _ => fun
  | [d] => { results := [.lit (.bool true)], args := [d] }
  | _ => none }
def fnExactOpenElementsRow : OpenClaim := { program := "ytfilpikakdlgbaa", sum := "200ce1e168104f555254af6e5545d36a91b740fcad96c30bb8b9713ea88ed09d", func := "loop.example/g01089/laws.FnExactOpenElements", spec := "fnExactOpenElements", unfollowed := true, recurses := true, apart := false }
def FnExactOpenElementsSaid : Prop := fnExactOpenElementsRow.holds Try.pinned (OpenSpec.ofChange fnExactOpenElementsSpec)

/-- ITS FALSE NEIGHBOUR: 'it returns false'. Refute it at one input. -/
def fnExactOpenElementsWrong : ChangeSpec := { name := "fnExactOpenElements", fn := fun _ => fun
  | [d] => { results := [.lit (.bool false)], args := [d] }
  | _ => none }
def FnExactOpenElementsWrongFalsely : Prop := fnExactOpenElementsRow.holds Try.pinned (OpenSpec.ofChange fnExactOpenElementsWrong)

/-- 'laws.FnExactSumFrames': WHATEVER THE INPUT: true; the input reads as it did. -/
def fnExactSumFramesSpec : ChangeSpec := { name := "fnExactSumFrames", fn := fun _ => fun
  | [d1, d2] => { results := [.lit (.bool true)], args := [d1, d2] }
  | _ => none }
def fnExactSumFramesRow : OpenClaim := { program := "ytfilpikakdlgbaa", sum := "200ce1e168104f555254af6e5545d36a91b740fcad96c30bb8b9713ea88ed09d", func := "loop.example/g01089/laws.FnExactSumFrames", spec := "fnExactSumFrames", unfollowed := true, recurses := true, apart := false }
def FnExactSumFramesSaid : Prop := fnExactSumFramesRow.holds Try.pinned (OpenSpec.ofChange fnExactSumFramesSpec)

/-- ITS FALSE NEIGHBOUR: 'it returns false'. Refute it at one input. -/
def fnExactSumFramesWrong : ChangeSpec := { name := "fnExactSumFrames", fn := fun _ => fun
  | [d1, d2] => { results := [.lit (.bool false)], args := [d1, d2] }
  | _ => none }
def FnExactSumFramesWrongFalsely : Prop := fnExactSumFramesRow.holds Try.pinned (OpenSpec.ofChange fnExactSumFramesWrong)

/-- 'laws.FnExactModalProduct': WHATEVER THE INPUT: true; the input reads as it did. -/
def fnExactModalProductSpec : ChangeSpec := { name := "fnExactModalProduct", fn := fun _ => fun
  | [d1, d2] => { results := [.lit (.bool true)], args := [d1, d2] }
  | _ => none }
def fnExactModalProductRow : OpenClaim := { program := "ytfilpikakdlgbaa", sum := "200ce1e168104f555254af6e5545d36a91b740fcad96c30bb8b9713ea88ed09d", func := "loop.example/g01089/laws.FnExactModalProduct", spec := "fnExactModalProduct", unfollowed := true, recurses := true, apart := false }
def FnExactModalProductSaid : Prop := fnExactModalProductRow.holds Try.pinned (OpenSpec.ofChange fnExactModalProductSpec)

/-- ITS FALSE NEIGHBOUR: 'it returns false'. Refute it at one input. -/
def fnExactModalProductWrong : ChangeSpec := { name := "fnExactModalProduct", fn := fun _ => fun
  | [d1, d2] => { results := [.lit (.bool false)], args := [d1, d2] }
  | _ => none }
def FnExactModalProductWrongFalsely : Prop := fnExactModalProductRow.holds Try.pinned (OpenSpec.ofChange fnExactModalProductWrong)

/-- 'laws.FnExactProductFrames': WHATEVER THE INPUT: true; the input reads as it did. -/
def fnExactProductFramesSpec : ChangeSpec := { name := "fnExactProductFrames", fn := fun _ => fun
  | [d1, d2] => { results := [.lit (.bool true)], args := [d1, d2] }
  | _ => none }
def fnExactProductFramesRow : OpenClaim := { program := "ytfilpikakdlgbaa", sum := "200ce1e168104f555254af6e5545d36a91b740fcad96c30bb8b9713ea88ed09d", func := "loop.example/g01089/laws.FnExactProductFrames", spec := "fnExactProductFrames", unfollowed := true, recurses := true, apart := false }
def FnExactProductFramesSaid : Prop := fnExactProductFramesRow.holds Try.pinned (OpenSpec.ofChange fnExactProductFramesSpec)

/-- ITS FALSE NEIGHBOUR: 'it returns false'. Refute it at one input. -/
def fnExactProductFramesWrong : ChangeSpec := { name := "fnExactProductFrames", fn := fun _ => fun
  | [d1, d2] => { results := [.lit (.bool false)], args := [d1, d2] }
  | _ => none }
def FnExactProductFramesWrongFalsely : Prop := fnExactProductFramesRow.holds Try.pinned (OpenSpec.ofChange fnExactProductFramesWrong)

/-- 'laws.FnExactIsMorphism': WHATEVER THE INPUT: true; the input reads as it did. -/
def fnExactIsMorphismSpec : ChangeSpec := { name := "fnExactIsMorphism", fn := fun _ => fun
  | [d1, d2, d3] => { results := [.lit (.bool true)], args := [d1, d2, d3] }
  | _ => none }
def fnExactIsMorphismRow : OpenClaim := { program := "ytfilpikakdlgbaa", sum := "200ce1e168104f555254af6e5545d36a91b740fcad96c30bb8b9713ea88ed09d", func := "loop.example/g01089/laws.FnExactIsMorphism", spec := "fnExactIsMorphism", unfollowed := true, recurses := true, apart := false }
def FnExactIsMorphismSaid : Prop := fnExactIsMorphismRow.holds Try.pinned (OpenSpec.ofChange fnExactIsMorphismSpec)

/-- ITS FALSE NEIGHBOUR: 'it returns false'. Refute it at one input. -/
def fnExactIsMorphismWrong : ChangeSpec := { name := "fnExactIsMorphism", fn := fun _ => fun
  | [d1, d2, d3] => { results := [.lit (.bool false)], args := [d1, d2, d3] }
  | _ => none }
def FnExactIsMorphismWrongFalsely : Prop := fnExactIsMorphismRow.holds Try.pinned (OpenSpec.ofChange fnExactIsMorphismWrong)

/-- 'laws.FnExactPullValues': WHATEVER THE INPUT: true; the input reads as it did. -/
def fnExactPullValuesSpec : ChangeSpec := { name := "fnExactPullValues", fn := fun _ => fun
  | [d1, d2, d3, d4] => { results := [.lit (.bool true)], args := [d1, d2, d3, d4] }
  | _ => none }
def fnExactPullValuesRow : OpenClaim := { program := "ytfilpikakdlgbaa", sum := "200ce1e168104f555254af6e5545d36a91b740fcad96c30bb8b9713ea88ed09d", func := "loop.example/g01089/laws.FnExactPullValues", spec := "fnExactPullValues", unfollowed := true, recurses := true, apart := false }
def FnExactPullValuesSaid : Prop := fnExactPullValuesRow.holds Try.pinned (OpenSpec.ofChange fnExactPullValuesSpec)

/-- ITS FALSE NEIGHBOUR: 'it returns false'. Refute it at one input. -/
def fnExactPullValuesWrong : ChangeSpec := { name := "fnExactPullValues", fn := fun _ => fun
  | [d1, d2, d3, d4] => { results := [.lit (.bool false)], args := [d1, d2, d3, d4] }
  | _ => none }
def FnExactPullValuesWrongFalsely : Prop := fnExactPullValuesRow.holds Try.pinned (OpenSpec.ofChange fnExactPullValuesWrong)

/-- 'laws.FnExactAlgebraOfFrame': WHATEVER THE INPUT: true; the input reads as it did. -/
def fnExactAlgebraOfFrameSpec : ChangeSpec := { name := "fnExactAlgebraOfFrame", fn := fun _ => fun
  | [d] => { results := [.lit (.bool true)], args := [d] }
  | _ => none }
def fnExactAlgebraOfFrameRow : OpenClaim := { program := "ytfilpikakdlgbaa", sum := "200ce1e168104f555254af6e5545d36a91b740fcad96c30bb8b9713ea88ed09d", func := "loop.example/g01089/laws.FnExactAlgebraOfFrame", spec := "fnExactAlgebraOfFrame", unfollowed := true, recurses := true, apart := false }
def FnExactAlgebraOfFrameSaid : Prop := fnExactAlgebraOfFrameRow.holds Try.pinned (OpenSpec.ofChange fnExactAlgebraOfFrameSpec)

/-- ITS FALSE NEIGHBOUR: 'it returns false'. Refute it at one input. -/
def fnExactAlgebraOfFrameWrong : ChangeSpec := { name := "fnExactAlgebraOfFrame", fn := fun _ => fun
  | [d] => { results := [.lit (.bool false)], args := [d] }
  | _ => none }
def FnExactAlgebraOfFrameWrongFalsely : Prop := fnExactAlgebraOfFrameRow.holds Try.pinned (OpenSpec.ofChange fnExactAlgebraOfFrameWrong)

/-- 'laws.FnExactGeneratedWorlds': WHATEVER THE INPUT: true; the input reads as it did. -/
def fnExactGeneratedWorldsSpec : ChangeSpec := { name := "fnExactGeneratedWorlds", fn := fun _ => fun
  | [d1, d2] => { results := [.lit (.bool true)], args := [d1, d2] }
  | _ => none }
def fnExactGeneratedWorldsRow : OpenClaim := { program := "ytfilpikakdlgbaa", sum := "200ce1e168104f555254af6e5545d36a91b740fcad96c30bb8b9713ea88ed09d", func := "loop.example/g01089/laws.FnExactGeneratedWorlds", spec := "fnExactGeneratedWorlds", unfollowed := true, recurses := true, apart := false }
def FnExactGeneratedWorldsSaid : Prop := fnExactGeneratedWorldsRow.holds Try.pinned (OpenSpec.ofChange fnExactGeneratedWorldsSpec)

/-- ITS FALSE NEIGHBOUR: 'it returns false'. Refute it at one input. -/
def fnExactGeneratedWorldsWrong : ChangeSpec := { name := "fnExactGeneratedWorlds", fn := fun _ => fun
  | [d1, d2] => { results := [.lit (.bool false)], args := [d1, d2] }
  | _ => none }
def FnExactGeneratedWorldsWrongFalsely : Prop := fnExactGeneratedWorldsRow.holds Try.pinned (OpenSpec.ofChange fnExactGeneratedWorldsWrong)

/- THE SECOND FORM. 'bulk': how many values and letters a reading holds, each counted each time it is reached (what is shared counts as often as it is met; a slice's spare places count too). A statement '..UptoSaid' is the law's where the arguments, and the package variables that the reading takes, are together of bulk at most 1048576: NARROWER than '..Said'. Prove '..Said' where nothing that the law and all that it calls make is longer than what came in: it says more and counts as full. Else prove '..UptoSaid'. A law counts once. -/
mutual
def uptoBulk {H : Type} : DataW H → Nat
  | .lit (.string bytes) => bytes.length + 1
  | .lit _ => 1
  | .nil => 1
  | .ptr d => uptoBulk d + 1
  | .slice elems spare => uptoBulkAll elems + uptoBulkAll spare + 1
  | .agg parts => uptoBulkAll parts + 1
  | .iface _ d => uptoBulk d + 1
  | .map entries => uptoBulkEntries entries + 1
  | .held _ => 1
def uptoBulkAll {H : Type} : List (DataW H) → Nat
  | [] => 0
  | d :: r => uptoBulk d + uptoBulkAll r
def uptoBulkEntries {H : Type} : List (Lit × DataW H) → Nat
  | [] => 0
  | x :: r => uptoBulkEntry x + uptoBulkEntries r
def uptoBulkEntry {H : Type} : Lit × DataW H → Nat
  | (.string bytes, d) => bytes.length + uptoBulk d + 1
  | (_, d) => uptoBulk d + 1
 end
def uptoSmall : (H : Type) → List (DataW H) → Bool := fun _ ds => decide (uptoBulkAll ds ≤ 1048576)
def OpenSpec.upto (s : _root_.Go.ChangeSpec) : _root_.Go.OpenSpec := { _root_.Go.OpenSpec.ofChange s with cond := some uptoSmall }

/-- 'laws.FnExactPartEnd', WHERE WHAT IT READS IS OF BULK AT MOST 1048576: true; the input reads as it did. -/
def fnExactPartEndUptoRow : OpenClaim := { program := "ytfilpikakdlgbaa", sum := "200ce1e168104f555254af6e5545d36a91b740fcad96c30bb8b9713ea88ed09d", func := "loop.example/g01089/laws.FnExactPartEnd", spec := "fnExactPartEnd", unfollowed := true, recurses := true, apart := false, narrowed := true }
def FnExactPartEndUptoSaid : Prop := fnExactPartEndUptoRow.holds Try.pinned (OpenSpec.upto fnExactPartEndSpec)

/-- 'laws.FnExactTransitiveClosure', WHERE WHAT IT READS IS OF BULK AT MOST 1048576: true; the input reads as it did. -/
def fnExactTransitiveClosureUptoRow : OpenClaim := { program := "ytfilpikakdlgbaa", sum := "200ce1e168104f555254af6e5545d36a91b740fcad96c30bb8b9713ea88ed09d", func := "loop.example/g01089/laws.FnExactTransitiveClosure", spec := "fnExactTransitiveClosure", unfollowed := true, recurses := true, apart := false, narrowed := true }
def FnExactTransitiveClosureUptoSaid : Prop := fnExactTransitiveClosureUptoRow.holds Try.pinned (OpenSpec.upto fnExactTransitiveClosureSpec)

/-- 'laws.FnExactComposeRelations', WHERE WHAT IT READS IS OF BULK AT MOST 1048576: true; the input reads as it did. -/
def fnExactComposeRelationsUptoRow : OpenClaim := { program := "ytfilpikakdlgbaa", sum := "200ce1e168104f555254af6e5545d36a91b740fcad96c30bb8b9713ea88ed09d", func := "loop.example/g01089/laws.FnExactComposeRelations", spec := "fnExactComposeRelations", unfollowed := true, recurses := true, apart := false, narrowed := true }
def FnExactComposeRelationsUptoSaid : Prop := fnExactComposeRelationsUptoRow.holds Try.pinned (OpenSpec.upto fnExactComposeRelationsSpec)

/-- 'laws.FnExactIsHomomorphism', WHERE WHAT IT READS IS OF BULK AT MOST 1048576: true; the input reads as it did. -/
def fnExactIsHomomorphismUptoRow : OpenClaim := { program := "ytfilpikakdlgbaa", sum := "200ce1e168104f555254af6e5545d36a91b740fcad96c30bb8b9713ea88ed09d", func := "loop.example/g01089/laws.FnExactIsHomomorphism", spec := "fnExactIsHomomorphism", unfollowed := true, recurses := true, apart := false, narrowed := true }
def FnExactIsHomomorphismUptoSaid : Prop := fnExactIsHomomorphismUptoRow.holds Try.pinned (OpenSpec.upto fnExactIsHomomorphismSpec)

/-- 'laws.FnExactOpenElements', WHERE WHAT IT READS IS OF BULK AT MOST 1048576: true; the input reads as it did. -/
def fnExactOpenElementsUptoRow : OpenClaim := { program := "ytfilpikakdlgbaa", sum := "200ce1e168104f555254af6e5545d36a91b740fcad96c30bb8b9713ea88ed09d", func := "loop.example/g01089/laws.FnExactOpenElements", spec := "fnExactOpenElements", unfollowed := true, recurses := true, apart := false, narrowed := true }
def FnExactOpenElementsUptoSaid : Prop := fnExactOpenElementsUptoRow.holds Try.pinned (OpenSpec.upto fnExactOpenElementsSpec)

/-- 'laws.FnExactSumFrames', WHERE WHAT IT READS IS OF BULK AT MOST 1048576: true; the input reads as it did. -/
def fnExactSumFramesUptoRow : OpenClaim := { program := "ytfilpikakdlgbaa", sum := "200ce1e168104f555254af6e5545d36a91b740fcad96c30bb8b9713ea88ed09d", func := "loop.example/g01089/laws.FnExactSumFrames", spec := "fnExactSumFrames", unfollowed := true, recurses := true, apart := false, narrowed := true }
def FnExactSumFramesUptoSaid : Prop := fnExactSumFramesUptoRow.holds Try.pinned (OpenSpec.upto fnExactSumFramesSpec)

/-- 'laws.FnExactModalProduct', WHERE WHAT IT READS IS OF BULK AT MOST 1048576: true; the input reads as it did. -/
def fnExactModalProductUptoRow : OpenClaim := { program := "ytfilpikakdlgbaa", sum := "200ce1e168104f555254af6e5545d36a91b740fcad96c30bb8b9713ea88ed09d", func := "loop.example/g01089/laws.FnExactModalProduct", spec := "fnExactModalProduct", unfollowed := true, recurses := true, apart := false, narrowed := true }
def FnExactModalProductUptoSaid : Prop := fnExactModalProductUptoRow.holds Try.pinned (OpenSpec.upto fnExactModalProductSpec)

/-- 'laws.FnExactProductFrames', WHERE WHAT IT READS IS OF BULK AT MOST 1048576: true; the input reads as it did. -/
def fnExactProductFramesUptoRow : OpenClaim := { program := "ytfilpikakdlgbaa", sum := "200ce1e168104f555254af6e5545d36a91b740fcad96c30bb8b9713ea88ed09d", func := "loop.example/g01089/laws.FnExactProductFrames", spec := "fnExactProductFrames", unfollowed := true, recurses := true, apart := false, narrowed := true }
def FnExactProductFramesUptoSaid : Prop := fnExactProductFramesUptoRow.holds Try.pinned (OpenSpec.upto fnExactProductFramesSpec)

/-- 'laws.FnExactIsMorphism', WHERE WHAT IT READS IS OF BULK AT MOST 1048576: true; the input reads as it did. -/
def fnExactIsMorphismUptoRow : OpenClaim := { program := "ytfilpikakdlgbaa", sum := "200ce1e168104f555254af6e5545d36a91b740fcad96c30bb8b9713ea88ed09d", func := "loop.example/g01089/laws.FnExactIsMorphism", spec := "fnExactIsMorphism", unfollowed := true, recurses := true, apart := false, narrowed := true }
def FnExactIsMorphismUptoSaid : Prop := fnExactIsMorphismUptoRow.holds Try.pinned (OpenSpec.upto fnExactIsMorphismSpec)

/-- 'laws.FnExactPullValues', WHERE WHAT IT READS IS OF BULK AT MOST 1048576: true; the input reads as it did. -/
def fnExactPullValuesUptoRow : OpenClaim := { program := "ytfilpikakdlgbaa", sum := "200ce1e168104f555254af6e5545d36a91b740fcad96c30bb8b9713ea88ed09d", func := "loop.example/g01089/laws.FnExactPullValues", spec := "fnExactPullValues", unfollowed := true, recurses := true, apart := false, narrowed := true }
def FnExactPullValuesUptoSaid : Prop := fnExactPullValuesUptoRow.holds Try.pinned (OpenSpec.upto fnExactPullValuesSpec)

/-- 'laws.FnExactAlgebraOfFrame', WHERE WHAT IT READS IS OF BULK AT MOST 1048576: true; the input reads as it did. -/
def fnExactAlgebraOfFrameUptoRow : OpenClaim := { program := "ytfilpikakdlgbaa", sum := "200ce1e168104f555254af6e5545d36a91b740fcad96c30bb8b9713ea88ed09d", func := "loop.example/g01089/laws.FnExactAlgebraOfFrame", spec := "fnExactAlgebraOfFrame", unfollowed := true, recurses := true, apart := false, narrowed := true }
def FnExactAlgebraOfFrameUptoSaid : Prop := fnExactAlgebraOfFrameUptoRow.holds Try.pinned (OpenSpec.upto fnExactAlgebraOfFrameSpec)

/-- 'laws.FnExactGeneratedWorlds', WHERE WHAT IT READS IS OF BULK AT MOST 1048576: true; the input reads as it did. -/
def fnExactGeneratedWorldsUptoRow : OpenClaim := { program := "ytfilpikakdlgbaa", sum := "200ce1e168104f555254af6e5545d36a91b740fcad96c30bb8b9713ea88ed09d", func := "loop.example/g01089/laws.FnExactGeneratedWorlds", spec := "fnExactGeneratedWorlds", unfollowed := true, recurses := true, apart := false, narrowed := true }
def FnExactGeneratedWorldsUptoSaid : Prop := fnExactGeneratedWorldsUptoRow.holds Try.pinned (OpenSpec.upto fnExactGeneratedWorldsSpec)

end Rows
end Go.Proofs.Ytfilpikakdlgbaa
