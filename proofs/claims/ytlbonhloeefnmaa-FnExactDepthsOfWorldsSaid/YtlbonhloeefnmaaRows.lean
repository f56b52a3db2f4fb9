/-
  No cell of these rows narrows 'for every input' (looked for: loops, veiled, ifaces, maps, wideKeys, modest, calm, conditions, laid).
  DERIVED. THE GIVEN ROWS OF THIS SEAT. 12 by the template 'for every input the law returns true; each argument reads behind the call as it read before'; 0 by the template 'total and deterministic' (their statements: YtlbonhloeefnmaaTotals.lean).
  GIVEN WITH THE SEED: the statements are not yours to turn. If you find one false, say at which input.
  Laid BY PROGRAM, IN A SANDBOX (cutbox-rows.mjs): the forced cells as the released guide's own fill.sh prints them over the translation 5313dc03a1858837… (all of the seat's roots in one cut). By AI agents, Wed Nov 11 2026. No macro, syntax, notation, axiom, sorry.
-/
import Derived.Test.YtlbonhloeefnmaaChecked
import GoSem.Claim
import GoSem.ClaimJoined
import GoSem.ClaimMapViews
import Derived.JoinedTies
import Derived.KernelRfl
namespace Go.Proofs.Ytlbonhloeefnmaa
/- THE CELL 'sum', in the pinned program and in every row, IS THE sha256 OF THE DUMP (.gsa) THAT YtlbonhloeefnmaaProg.lean LOADS. Nothing in Lean hashes anything: it is a label: what it is worth is what the hold of that sum in a sandbox is worth. -/
noncomputable def Try.pinned : Pinned := { name := "ytlbonhloeefnmaa", sum := "5313dc03a1858837707aca8d320043ab235592023cd00f6fa06b9920f2e543e6", checked := Try.checked }
namespace Rows
def none {H : Type} : Left H := { results := [], args := [] }

/-- 'laws.FnExactGreatestBisimulation': WHATEVER THE INPUT: true; the input reads as it did. -/
def fnExactGreatestBisimulationSpec : ChangeSpec := { name := "fnExactGreatestBisimulation", fn := fun _ => fun
  | [d1, d2] => { results := [.lit (.bool true)], args := [d1, d2] }
  | _ => none }
def fnExactGreatestBisimulationRow : OpenClaim := { program := "ytlbonhloeefnmaa", sum := "5313dc03a1858837707aca8d320043ab235592023cd00f6fa06b9920f2e543e6", func := "loop.example/g01089/laws.FnExactGreatestBisimulation", spec := "fnExactGreatestBisimulation", unfollowed := true, recurses := true, apart := false }
def FnExactGreatestBisimulationSaid : Prop := fnExactGreatestBisimulationRow.holds Try.pinned (OpenSpec.ofChange fnExactGreatestBisimulationSpec)

/-- ITS FALSE NEIGHBOUR: 'it returns false'. Refute it at one input. -/
def fnExactGreatestBisimulationWrong : ChangeSpec := { name := "fnExactGreatestBisimulation", fn := fun _ => fun
  | [d1, d2] => { results := [.lit (.bool false)], args := [d1, d2] }
  | _ => none }
def FnExactGreatestBisimulationWrongFalsely : Prop := fnExactGreatestBisimulationRow.holds Try.pinned (OpenSpec.ofChange fnExactGreatestBisimulationWrong)

/-- 'laws.FnExactBoundedBisimulation': WHATEVER THE INPUT: true; the input reads as it did. -/
def fnExactBoundedBisimulationSpec : ChangeSpec := { name := "fnExactBoundedBisimulation", fn := fun _ => fun
  | [d1, d2, d3] => { results := [.lit (.bool true)], args := [d1, d2, d3] }
  | _ => none }
def fnExactBoundedBisimulationRow : OpenClaim := { program := "ytlbonhloeefnmaa", sum := "5313dc03a1858837707aca8d320043ab235592023cd00f6fa06b9920f2e543e6", func := "loop.example/g01089/laws.FnExactBoundedBisimulation", spec := "fnExactBoundedBisimulation", unfollowed := true, recurses := true, apart := false }
def FnExactBoundedBisimulationSaid : Prop := fnExactBoundedBisimulationRow.holds Try.pinned (OpenSpec.ofChange fnExactBoundedBisimulationSpec)

/-- ITS FALSE NEIGHBOUR: 'it returns false'. Refute it at one input. -/
def fnExactBoundedBisimulationWrong : ChangeSpec := { name := "fnExactBoundedBisimulation", fn := fun _ => fun
  | [d1, d2, d3] => { results := [.lit (.bool false)], args := [d1, d2, d3] }
  | _ => none }
def FnExactBoundedBisimulationWrongFalsely : Prop := fnExactBoundedBisimulationRow.holds Try.pinned (OpenSpec.ofChange fnExactBoundedBisimulationWrong)

/-- 'laws.FnExactRoundsToTell': WHATEVER THE INPUT: true; the input reads as it did. -/
def fnExactRoundsToTellSpec : ChangeSpec := { name := "fnExactRoundsToTell", fn := fun _ => fun
  | [d1, d2, d3, d4] => { results := [.lit (.bool true)], args := [d1, d2, d3, d4] }
  | _ => none }
def fnExactRoundsToTellRow : OpenClaim := { program := "ytlbonhloeefnmaa", sum := "5313dc03a1858837707aca8d320043ab235592023cd00f6fa06b9920f2e543e6", func := "loop.example/g01089/laws.FnExactRoundsToTell", spec := "fnExactRoundsToTell", unfollowed := true, recurses := true, apart := false }
def FnExactRoundsToTellSaid : Prop := fnExactRoundsToTellRow.holds Try.pinned (OpenSpec.ofChange fnExactRoundsToTellSpec)

/-- ITS FALSE NEIGHBOUR: 'it returns false'. Refute it at one input. -/
def fnExactRoundsToTellWrong : ChangeSpec := { name := "fnExactRoundsToTell", fn := fun _ => fun
  | [d1, d2, d3, d4] => { results := [.lit (.bool false)], args := [d1, d2, d3, d4] }
  | _ => none }
def FnExactRoundsToTellWrongFalsely : Prop := fnExactRoundsToTellRow.holds Try.pinned (OpenSpec.ofChange fnExactRoundsToTellWrong)

/-- 'laws.FnExactDepthsOfWorlds': WHATEVER THE INPUT: true; the input reads as it did. -/
def fnExactDepthsOfWorldsSpec : ChangeSpec := { name := "fnExactDepthsOfWorlds", fn := fun _ => fun
  | [d] => { results := [.lit (.bool true)], args := [d] }
  | _ => none }
def fnExactDepthsOfWorldsRow : OpenClaim := { program := "ytlbonhloeefnmaa", sum := "5313dc03a1858837707aca8d320043ab235592023cd00f6fa06b9920f2e543e6", func := "loop.example/g01089/laws.FnExactDepthsOfWorlds", spec := "fnExactDepthsOfWorlds", unfollowed := true, recurses := true, apart := false }
def FnExactDepthsOfWorldsSaid : Prop := fnExactDepthsOfWorldsRow.holds Try.pinned (OpenSpec.ofChange fnExactDepthsOfWorldsSpec)

/-- ITS FALSE NEIGHBOUR: 'it returns false'. Refute it at one input. -/
def fnExactDepthsOfWorldsWrong : ChangeSpec := { name := "fnExactDepthsOfWorlds", fn := fun _ => fun
  | [d] => { results := [.lit (.bool false)], args := [d] }
  | _ => none }
def FnExactDepthsOfWorldsWrongFalsely : Prop := fnExactDepthsOfWorldsRow.holds Try.pinned (OpenSpec.ofChange fnExactDepthsOfWorldsWrong)

/-- 'laws.FnExactWidthOf': WHATEVER THE INPUT: true; the input reads as it did. -/
def fnExactWidthOfSpec : ChangeSpec := { name := "fnExactWidthOf", fn := fun _ => fun
  | [d] => { results := [.lit (.bool true)], args := [d] }
  | _ => none }
def fnExactWidthOfRow : OpenClaim := { program := "ytlbonhloeefnmaa", sum := "5313dc03a1858837707aca8d320043ab235592023cd00f6fa06b9920f2e543e6", func := "loop.example/g01089/laws.FnExactWidthOf", spec := "fnExactWidthOf", unfollowed := true, recurses := true, apart := false }
def FnExactWidthOfSaid : Prop := fnExactWidthOfRow.holds Try.pinned (OpenSpec.ofChange fnExactWidthOfSpec)

/-- ITS FALSE NEIGHBOUR: 'it returns false'. Refute it at one input. -/
def fnExactWidthOfWrong : ChangeSpec := { name := "fnExactWidthOf", fn := fun _ => fun
  | [d] => { results := [.lit (.bool false)], args := [d] }
  | _ => none }
def FnExactWidthOfWrongFalsely : Prop := fnExactWidthOfRow.holds Try.pinned (OpenSpec.ofChange fnExactWidthOfWrong)

/-- 'laws.FnExactFrameFlags': WHATEVER THE INPUT: true; the input reads as it did. -/
def fnExactFrameFlagsSpec : ChangeSpec := { name := "fnExactFrameFlags", fn := fun _ => fun
  | [d] => { results := [.lit (.bool true)], args := [d] }
  | _ => none }
def fnExactFrameFlagsRow : OpenClaim := { program := "ytlbonhloeefnmaa", sum := "5313dc03a1858837707aca8d320043ab235592023cd00f6fa06b9920f2e543e6", func := "loop.example/g01089/laws.FnExactFrameFlags", spec := "fnExactFrameFlags", unfollowed := true, recurses := true, apart := false }
def FnExactFrameFlagsSaid : Prop := fnExactFrameFlagsRow.holds Try.pinned (OpenSpec.ofChange fnExactFrameFlagsSpec)

/-- ITS FALSE NEIGHBOUR: 'it returns false'. Refute it at one input. -/
def fnExactFrameFlagsWrong : ChangeSpec := { name := "fnExactFrameFlags", fn := fun _ => fun
  | [d] => { results := [.lit (.bool false)], args := [d] }
  | _ => none }
def FnExactFrameFlagsWrongFalsely : Prop := fnExactFrameFlagsRow.holds Try.pinned (OpenSpec.ofChange fnExactFrameFlagsWrong)

/-- 'laws.FnExactLeastFrame': WHATEVER THE INPUT: true; the input reads as it did. -/
def fnExactLeastFrameSpec : ChangeSpec := { name := "fnExactLeastFrame", fn := fun _ => fun
  | [d] => { results := [.lit (.bool true)], args := [d] }
  | _ => none }
def fnExactLeastFrameRow : OpenClaim := { program := "ytlbonhloeefnmaa", sum := "5313dc03a1858837707aca8d320043ab235592023cd00f6fa06b9920f2e543e6", func := "loop.example/g01089/laws.FnExactLeastFrame", spec := "fnExactLeastFrame", unfollowed := true, recurses := true, apart := false }
def FnExactLeastFrameSaid : Prop := fnExactLeastFrameRow.holds Try.pinned (OpenSpec.ofChange fnExactLeastFrameSpec)

/-- ITS FALSE NEIGHBOUR: 'it returns false'. Refute it at one input. -/
def fnExactLeastFrameWrong : ChangeSpec := { name := "fnExactLeastFrame", fn := fun _ => fun
  | [d] => { results := [.lit (.bool false)], args := [d] }
  | _ => none }
def FnExactLeastFrameWrongFalsely : Prop := fnExactLeastFrameRow.holds Try.pinned (OpenSpec.ofChange fnExactLeastFrameWrong)

/-- 'laws.FnExactAllCongruences': WHATEVER THE INPUT: true; the input reads as it did. -/
def fnExactAllCongruencesSpec : ChangeSpec := { name := "fnExactAllCongruences", fn := fun _ => fun
  | [d] => { results := [.lit (.bool true)], args := [d] }
  | _ => none }
def fnExactAllCongruencesRow : OpenClaim := { program := "ytlbonhloeefnmaa", sum := "5313dc03a1858837707aca8d320043ab235592023cd00f6fa06b9920f2e543e6", func := "loop.example/g01089/laws.FnExactAllCongruences", spec := "fnExactAllCongruences", unfollowed := true, recurses := true, apart := false }
def FnExactAllCongruencesSaid : Prop := fnExactAllCongruencesRow.holds Try.pinned (OpenSpec.ofChange fnExactAllCongruencesSpec)

/-- ITS FALSE NEIGHBOUR: 'it returns false'. Refute it at one input. -/
def fnExactAllCongruencesWrong : ChangeSpec := { name := "fnExactAllCongruences", fn := fun _ => fun
  | [d] => { results := [.lit (.bool false)], args := [d] }
  | _ => none }
def FnExactAllCongruencesWrongFalsely : Prop := fnExactAllCongruencesRow.holds Try.pinned (OpenSpec.ofChange fnExactAllCongruencesWrong)

/-- 'laws.FnCongruences': WHATEVER THE INPUT: true; the input reads as it did. -/
def fnCongruencesSpec : ChangeSpec := { name := "fnCongruences", fn := fun _ => fun
  | [d] => { results := [.lit (.bool true)], args := [d] }
  | _ => none }
def fnCongruencesRow : OpenClaim := { program := "ytlbonhloeefnmaa", sum := "5313dc03a1858837707aca8d320043ab235592023cd00f6fa06b9920f2e543e6", func := "loop.example/g01089/laws.FnCongruences", spec := "fnCongruences", unfollowed := true, recurses := true, apart := false }
def FnCongruencesSaid : Prop := fnCongruencesRow.holds Try.pinned (OpenSpec.ofChange fnCongruencesSpec)

/-- ITS FALSE NEIGHBOUR: 'it returns false'. Refute it at one input. -/
def fnCongruencesWrong : ChangeSpec := { name := "fnCongruences", fn := fun _ => fun
  | [d] => { results := [.lit (.bool false)], args := [d] }
  | _ => none }
def FnCongruencesWrongFalsely : Prop := fnCongruencesRow.holds Try.pinned (OpenSpec.ofChange fnCongruencesWrong)

/-- 'laws.FnRelations': WHATEVER THE INPUT: true; the input reads as it did. -/
def fnRelationsSpec : ChangeSpec := { name := "fnRelations", fn := fun _ => fun
  | [d] => { results := [.lit (.bool true)], args := [d] }
  | _ => none }
def fnRelationsRow : OpenClaim := { program := "ytlbonhloeefnmaa", sum := "5313dc03a1858837707aca8d320043ab235592023cd00f6fa06b9920f2e543e6", func := "loop.example/g01089/laws.FnRelations", spec := "fnRelations", unfollowed := true, recurses := true, apart := false }
def FnRelationsSaid : Prop := fnRelationsRow.holds Try.pinned (OpenSpec.ofChange fnRelationsSpec)

/-- ITS FALSE NEIGHBOUR: 'it returns false'. Refute it at one input. -/
def fnRelationsWrong : ChangeSpec := { name := "fnRelations", fn := fun _ => fun
  | [d] => { results := [.lit (.bool false)], args := [d] }
  | _ => none }
def FnRelationsWrongFalsely : Prop := fnRelationsRow.holds Try.pinned (OpenSpec.ofChange fnRelationsWrong)

/-- 'laws.FnModalDuality': WHATEVER THE INPUT: true; the input reads as it did. -/
def fnModalDualitySpec : ChangeSpec := { name := "fnModalDuality", fn := fun _ => fun
  | [d] => { results := [.lit (.bool true)], args := [d] }
  | _ => none }
def fnModalDualityRow : OpenClaim := { program := "ytlbonhloeefnmaa", sum := "5313dc03a1858837707aca8d320043ab235592023cd00f6fa06b9920f2e543e6", func := "loop.example/g01089/laws.FnModalDuality", spec := "fnModalDuality", unfollowed := true, recurses := true, apart := false }
def FnModalDualitySaid : Prop := fnModalDualityRow.holds Try.pinned (OpenSpec.ofChange fnModalDualitySpec)

/-- ITS FALSE NEIGHBOUR: 'it returns false'. Refute it at one input. -/
def fnModalDualityWrong : ChangeSpec := { name := "fnModalDuality", fn := fun _ => fun
  | [d] => { results := [.lit (.bool false)], args := [d] }
  | _ => none }
def FnModalDualityWrongFalsely : Prop := fnModalDualityRow.holds Try.pinned (OpenSpec.ofChange fnModalDualityWrong)

/-- 'laws.FnClosures': WHATEVER THE INPUT: true; the input reads as it did. -/
def fnClosuresSpec : ChangeSpec := { name := "fnClosures", fn := fun _ => fun
  | [d] => { results := [.lit (.bool true)], args := [d] }
  | _ => none }
def fnClosuresRow : OpenClaim := { program := "ytlbonhloeefnmaa", sum := "5313dc03a1858837707aca8d320043ab235592023cd00f6fa06b9920f2e543e6", func := "loop.example/g01089/laws.FnClosures", spec := "fnClosures", unfollowed := true, recurses := true, apart := false }
def FnClosuresSaid : Prop := fnClosuresRow.holds Try.pinned (OpenSpec.ofChange fnClosuresSpec)

/-- ITS FALSE NEIGHBOUR: 'it returns false'. Refute it at one input. -/
def fnClosuresWrong : ChangeSpec := { name := "fnClosures", fn := fun _ => fun
  | [d] => { results := [.lit (.bool false)], args := [d] }
  | _ => none }
def FnClosuresWrongFalsely : Prop := fnClosuresRow.holds Try.pinned (OpenSpec.ofChange fnClosuresWrong)

/- THE SECOND FORM. 'bulk': how many values and letters a reading holds, each counted each time it is reached (what is shared counts as often as it is met; a slice's spare places count too). A statement '..UptoSaid' is the law's where the arguments, and the package variables that the reading takes, are together of bulk at most 1048576: NARROWER than '..Said'. Prove '..Said' where nothing that the law and all that it calls make is longer than what came in: it says more and counts as full. Else prove '..UptoSaid'. A law counts once. -/
mutual
def uptoBulk {H : Type} : DataW H → Nat
  | .lit (.string bytes) => bytes.length + 1
  | .lit _ => 1
  | .nil => 1
  | .ptr d => uptoBulk d + 1
  | .slice elems spare => uptoBulkAll elems + uptoBulkAll spare + 1
  | .agg parts => uptoBulkAll parts + 1
  | .iface _ d => uptoBulk d + 1
  | .map entries => uptoBulkEntries entries + 1
  | .held _ => 1
def uptoBulkAll {H : Type} : List (DataW H) → Nat
  | [] => 0
  | d :: r => uptoBulk d + uptoBulkAll r
def uptoBulkEntries {H : Type} : List (Lit × DataW H) → Nat
  | [] => 0
  | x :: r => uptoBulkEntry x + uptoBulkEntries r
def uptoBulkEntry {H : Type} : Lit × DataW H → Nat
  | (.string bytes, d) => bytes.length + uptoBulk d + 1
  | (_, d) => uptoBulk d + 1
 end
def uptoSmall : (H : Type) → List (DataW H) → Bool := fun _ ds => decide (uptoBulkAll ds ≤ 1048576)
def OpenSpec.upto (s : _root_.Go.ChangeSpec) : _root_.Go.OpenSpec := { _root_.Go.OpenSpec.ofChange s with cond := some uptoSmall }

/-- 'laws.FnExactGreatestBisimulation', WHERE WHAT IT READS IS OF BULK AT MOST 1048576: true; the input reads as it did. -/
def fnExactGreatestBisimulationUptoRow : OpenClaim := { program := "ytlbonhloeefnmaa", sum := "5313dc03a1858837707aca8d320043ab235592023cd00f6fa06b9920f2e543e6", func := "loop.example/g01089/laws.FnExactGreatestBisimulation", spec := "fnExactGreatestBisimulation", unfollowed := true, recurses := true, apart := false, narrowed := true }
def FnExactGreatestBisimulationUptoSaid : Prop := fnExactGreatestBisimulationUptoRow.holds Try.pinned (OpenSpec.upto fnExactGreatestBisimulationSpec)

/-- 'laws.FnExactBoundedBisimulation', WHERE WHAT IT READS IS OF BULK AT MOST 1048576: true; the input reads as it did. -/
def fnExactBoundedBisimulationUptoRow : OpenClaim := { program := "ytlbonhloeefnmaa", sum := "5313dc03a1858837707aca8d320043ab235592023cd00f6fa06b9920f2e543e6", func := "loop.example/g01089/laws.FnExactBoundedBisimulation", spec := "fnExactBoundedBisimulation", unfollowed := true, recurses := true, apart := false, narrowed := true }
def FnExactBoundedBisimulationUptoSaid : Prop := fnExactBoundedBisimulationUptoRow.holds Try.pinned (OpenSpec.upto fnExactBoundedBisimulationSpec)

/-- 'laws.FnExactRoundsToTell', WHERE WHAT IT READS IS OF BULK AT MOST 1048576: true; the input reads as it did. -/
def fnExactRoundsToTellUptoRow : OpenClaim := { program := "ytlbonhloeefnmaa", sum := "5313dc03a1858837707aca8d320043ab235592023cd00f6fa06b9920f2e543e6", func := "loop.example/g01089/laws.FnExactRoundsToTell", spec := "fnExactRoundsToTell", unfollowed := true, recurses := true, apart := false, narrowed := true }
def FnExactRoundsToTellUptoSaid : Prop := fnExactRoundsToTellUptoRow.holds Try.pinned (OpenSpec.upto fnExactRoundsToTellSpec)

/-- 'laws.FnExactDepthsOfWorlds', WHERE WHAT IT READS IS OF BULK AT MOST 1048576: true; the input reads as it did. -/
def fnExactDepthsOfWorldsUptoRow : OpenClaim := { program := "ytlbonhloeefnmaa", sum := "5313dc03a1858837707aca8d320043ab235592023cd00f6fa06b9920f2e543e6", func := "loop.example/g01089/laws.FnExactDepthsOfWorlds", spec := "fnExactDepthsOfWorlds", unfollowed := true, recurses := true, apart := false, narrowed := true }
def FnExactDepthsOfWorldsUptoSaid : Prop := fnExactDepthsOfWorldsUptoRow.holds Try.pinned (OpenSpec.upto fnExactDepthsOfWorldsSpec)

/-- 'laws.FnExactWidthOf', WHERE WHAT IT READS IS OF BULK AT MOST 1048576: true; the input reads as it did. -/
def fnExactWidthOfUptoRow : OpenClaim := { program := "ytlbonhloeefnmaa", sum := "5313dc03a1858837707aca8d320043ab235592023cd00f6fa06b9920f2e543e6", func := "loop.example/g01089/laws.FnExactWidthOf", spec := "fnExactWidthOf", unfollowed := true, recurses := true, apart := false, narrowed := true }
def FnExactWidthOfUptoSaid : Prop := fnExactWidthOfUptoRow.holds Try.pinned (OpenSpec.upto fnExactWidthOfSpec)

/-- 'laws.FnExactFrameFlags', WHERE WHAT IT READS IS OF BULK AT MOST 1048576: true; the input reads as it did. -/
def fnExactFrameFlagsUptoRow : OpenClaim := { program := "ytlbonhloeefnmaa", sum := "5313dc03a1858837707aca8d320043ab235592023cd00f6fa06b9920f2e543e6", func := "loop.example/g01089/laws.FnExactFrameFlags", spec := "fnExactFrameFlags", unfollowed := true, recurses := true, apart := false, narrowed := true }
def FnExactFrameFlagsUptoSaid : Prop := fnExactFrameFlagsUptoRow.holds Try.pinned (OpenSpec.upto fnExactFrameFlagsSpec)

/-- 'laws.FnExactLeastFrame', WHERE WHAT IT READS IS OF BULK AT MOST 1048576: true; the input reads as it did. -/
def fnExactLeastFrameUptoRow : OpenClaim := { program := "ytlbonhloeefnmaa", sum := "5313dc03a1858837707aca8d320043ab235592023cd00f6fa06b9920f2e543e6", func := "loop.example/g01089/laws.FnExactLeastFrame", spec := "fnExactLeastFrame", unfollowed := true, recurses := true, apart := false, narrowed := true }
def FnExactLeastFrameUptoSaid : Prop := fnExactLeastFrameUptoRow.holds Try.pinned (OpenSpec.upto fnExactLeastFrameSpec)

/-- 'laws.FnExactAllCongruences', WHERE WHAT IT READS IS OF BULK AT MOST 1048576: true; the input reads as it did. -/
def fnExactAllCongruencesUptoRow : OpenClaim := { program := "ytlbonhloeefnmaa", sum := "5313dc03a1858837707aca8d320043ab235592023cd00f6fa06b9920f2e543e6", func := "loop.example/g01089/laws.FnExactAllCongruences", spec := "fnExactAllCongruences", unfollowed := true, recurses := true, apart := false, narrowed := true }
def FnExactAllCongruencesUptoSaid : Prop := fnExactAllCongruencesUptoRow.holds Try.pinned (OpenSpec.upto fnExactAllCongruencesSpec)

/-- 'laws.FnCongruences', WHERE WHAT IT READS IS OF BULK AT MOST 1048576: true; the input reads as it did. -/
def fnCongruencesUptoRow : OpenClaim := { program := "ytlbonhloeefnmaa", sum := "5313dc03a1858837707aca8d320043ab235592023cd00f6fa06b9920f2e543e6", func := "loop.example/g01089/laws.FnCongruences", spec := "fnCongruences", unfollowed := true, recurses := true, apart := false, narrowed := true }
def FnCongruencesUptoSaid : Prop := fnCongruencesUptoRow.holds Try.pinned (OpenSpec.upto fnCongruencesSpec)

/-- 'laws.FnRelations', WHERE WHAT IT READS IS OF BULK AT MOST 1048576: true; the input reads as it did. -/
def fnRelationsUptoRow : OpenClaim := { program := "ytlbonhloeefnmaa", sum := "5313dc03a1858837707aca8d320043ab235592023cd00f6fa06b9920f2e543e6", func := "loop.example/g01089/laws.FnRelations", spec := "fnRelations", unfollowed := true, recurses := true, apart := false, narrowed := true }
def FnRelationsUptoSaid : Prop := fnRelationsUptoRow.holds Try.pinned (OpenSpec.upto fnRelationsSpec)

/-- 'laws.FnModalDuality', WHERE WHAT IT READS IS OF BULK AT MOST 1048576: true; the input reads as it did. -/
def fnModalDualityUptoRow : OpenClaim := { program := "ytlbonhloeefnmaa", sum := "5313dc03a1858837707aca8d320043ab235592023cd00f6fa06b9920f2e543e6", func := "loop.example/g01089/laws.FnModalDuality", spec := "fnModalDuality", unfollowed := true, recurses := true, apart := false, narrowed := true }
def FnModalDualityUptoSaid : Prop := fnModalDualityUptoRow.holds Try.pinned (OpenSpec.upto fnModalDualitySpec)

/-- 'laws.FnClosures', WHERE WHAT IT READS IS OF BULK AT MOST 1048576: true; the input reads as it did. -/
def fnClosuresUptoRow : OpenClaim := { program := "ytlbonhloeefnmaa", sum := "5313dc03a1858837707aca8d320043ab235592023cd00f6fa06b9920f2e543e6", func := "loop.example/g01089/laws.FnClosures", spec := "fnClosures", unfollowed := true, recurses := true, apart := false, narrowed := true }
def FnClosuresUptoSaid : Prop := fnClosuresUptoRow.holds Try.pinned (OpenSpec.upto fnClosuresSpec)

end Rows
end Go.Proofs.Ytlbonhloeefnmaa
