/-
  No cell of these rows narrows 'for every input' (looked for: loops, veiled, ifaces, maps, wideKeys, modest, calm, conditions, laid).
  DERIVED. THE GIVEN ROWS OF THIS SEAT. 11 by the template 'for every input the law returns true; each argument reads behind the call as it read before'; 0 by the template 'total and deterministic' (their statements: YthogljcjjmclcaaTotals.lean).
  GIVEN WITH THE SEED: the statements are not yours to turn. If you find one false, say at which input.
  Laid BY PROGRAM, IN A SANDBOX (cutbox-rows.mjs): the forced cells as the released guide's own fill.sh prints them over the translation 0e606693d15f5c70… (all of the seat's roots in one cut). By AI agents, Wed Nov 11 2026. No macro, syntax, notation, axiom, sorry.
-/
import Derived.Test.YthogljcjjmclcaaChecked
import GoSem.Claim
import GoSem.ClaimJoined
import GoSem.ClaimMapViews
import Derived.JoinedTies
import Derived.KernelRfl
namespace Go.Proofs.Ythogljcjjmclcaa
/- THE CELL 'sum', in the pinned program and in every row, IS THE sha256 OF THE DUMP (.gsa) THAT YthogljcjjmclcaaProg.lean LOADS. Nothing in Lean hashes anything: it is a label: what it is worth is what the hold of that sum in a sandbox is worth. -/
noncomputable def Try.pinned : Pinned := { name := "ythogljcjjmclcaa", sum := "0e606693d15f5c70b64e0f15a26fb8e428f81a82b45fdaee9e9962a302c2a8cf", checked := Try.checked }
namespace Rows
def none {H : Type} : Left H := { results := [], args := [] }

/-- 'laws.FnExactIsPoset': WHATEVER THE INPUT: true; the input reads as it did. -/
def fnExactIsPosetSpec : ChangeSpec := { name := "fnExactIsPoset", fn := fun _ => fun
  | [d] => { results := [.lit (.bool true)], args := [d] }
  | _ => none }
def fnExactIsPosetRow : OpenClaim := { program := "ythogljcjjmclcaa", sum := "0e606693d15f5c70b64e0f15a26fb8e428f81a82b45fdaee9e9962a302c2a8cf", func := "loop.example/g01089/laws.FnExactIsPoset", spec := "fnExactIsPoset", unfollowed := true, recurses := true, apart := false }
def FnExactIsPosetSaid : Prop := fnExactIsPosetRow.holds Try.pinned (OpenSpec.ofChange fnExactIsPosetSpec)

/-- ITS FALSE NEIGHBOUR: 'it returns false'. Refute it at one input. -/
def fnExactIsPosetWrong : ChangeSpec := { name := "fnExactIsPoset", fn := fun _ => fun
  | [d] => { results := [.lit (.bool false)], args := [d] }
  | _ => none }
def FnExactIsPosetWrongFalsely : Prop := fnExactIsPosetRow.holds Try.pinned (OpenSpec.ofChange fnExactIsPosetWrong)

/-- 'laws.FnExactMaximalOf': WHATEVER THE INPUT: true; the input reads as it did. -/
def fnExactMaximalOfSpec : ChangeSpec := { name := "fnExactMaximalOf", fn := fun _ => fun
  | [d] => { results := [.lit (.bool true)], args := [d] }
  | _ => none }
def fnExactMaximalOfRow : OpenClaim := { program := "ythogljcjjmclcaa", sum := "0e606693d15f5c70b64e0f15a26fb8e428f81a82b45fdaee9e9962a302c2a8cf", func := "loop.example/g01089/laws.FnExactMaximalOf", spec := "fnExactMaximalOf", unfollowed := true, recurses := true, apart := false }
def FnExactMaximalOfSaid : Prop := fnExactMaximalOfRow.holds Try.pinned (OpenSpec.ofChange fnExactMaximalOfSpec)

/-- ITS FALSE NEIGHBOUR: 'it returns false'. Refute it at one input. -/
def fnExactMaximalOfWrong : ChangeSpec := { name := "fnExactMaximalOf", fn := fun _ => fun
  | [d] => { results := [.lit (.bool false)], args := [d] }
  | _ => none }
def FnExactMaximalOfWrongFalsely : Prop := fnExactMaximalOfRow.holds Try.pinned (OpenSpec.ofChange fnExactMaximalOfWrong)

/-- 'laws.FnExactUpsetOf': WHATEVER THE INPUT: true; the input reads as it did. -/
def fnExactUpsetOfSpec : ChangeSpec := { name := "fnExactUpsetOf", fn := fun _ => fun
  | [d1, d2] => { results := [.lit (.bool true)], args := [d1, d2] }
  | _ => none }
def fnExactUpsetOfRow : OpenClaim := { program := "ythogljcjjmclcaa", sum := "0e606693d15f5c70b64e0f15a26fb8e428f81a82b45fdaee9e9962a302c2a8cf", func := "loop.example/g01089/laws.FnExactUpsetOf", spec := "fnExactUpsetOf", unfollowed := true, recurses := true, apart := false }
def FnExactUpsetOfSaid : Prop := fnExactUpsetOfRow.holds Try.pinned (OpenSpec.ofChange fnExactUpsetOfSpec)

/-- ITS FALSE NEIGHBOUR: 'it returns false'. Refute it at one input. -/
def fnExactUpsetOfWrong : ChangeSpec := { name := "fnExactUpsetOf", fn := fun _ => fun
  | [d1, d2] => { results := [.lit (.bool false)], args := [d1, d2] }
  | _ => none }
def FnExactUpsetOfWrongFalsely : Prop := fnExactUpsetOfRow.holds Try.pinned (OpenSpec.ofChange fnExactUpsetOfWrong)

/-- 'laws.FnExactDualPoset': WHATEVER THE INPUT: true; the input reads as it did. -/
def fnExactDualPosetSpec : ChangeSpec := { name := "fnExactDualPoset", fn := fun _ => fun
  | [d] => { results := [.lit (.bool true)], args := [d] }
  | _ => none }
def fnExactDualPosetRow : OpenClaim := { program := "ythogljcjjmclcaa", sum := "0e606693d15f5c70b64e0f15a26fb8e428f81a82b45fdaee9e9962a302c2a8cf", func := "loop.example/g01089/laws.FnExactDualPoset", spec := "fnExactDualPoset", unfollowed := true, recurses := true, apart := false }
def FnExactDualPosetSaid : Prop := fnExactDualPosetRow.holds Try.pinned (OpenSpec.ofChange fnExactDualPosetSpec)

/-- ITS FALSE NEIGHBOUR: 'it returns false'. Refute it at one input. -/
def fnExactDualPosetWrong : ChangeSpec := { name := "fnExactDualPoset", fn := fun _ => fun
  | [d] => { results := [.lit (.bool false)], args := [d] }
  | _ => none }
def FnExactDualPosetWrongFalsely : Prop := fnExactDualPosetRow.holds Try.pinned (OpenSpec.ofChange fnExactDualPosetWrong)

/-- 'laws.FnExactInteriorOf': WHATEVER THE INPUT: true; the input reads as it did. -/
def fnExactInteriorOfSpec : ChangeSpec := { name := "fnExactInteriorOf", fn := fun _ => fun
  | [d1, d2] => { results := [.lit (.bool true)], args := [d1, d2] }
  | _ => none }
def fnExactInteriorOfRow : OpenClaim := { program := "ythogljcjjmclcaa", sum := "0e606693d15f5c70b64e0f15a26fb8e428f81a82b45fdaee9e9962a302c2a8cf", func := "loop.example/g01089/laws.FnExactInteriorOf", spec := "fnExactInteriorOf", unfollowed := true, recurses := true, apart := false }
def FnExactInteriorOfSaid : Prop := fnExactInteriorOfRow.holds Try.pinned (OpenSpec.ofChange fnExactInteriorOfSpec)

/-- ITS FALSE NEIGHBOUR: 'it returns false'. Refute it at one input. -/
def fnExactInteriorOfWrong : ChangeSpec := { name := "fnExactInteriorOf", fn := fun _ => fun
  | [d1, d2] => { results := [.lit (.bool false)], args := [d1, d2] }
  | _ => none }
def FnExactInteriorOfWrongFalsely : Prop := fnExactInteriorOfRow.holds Try.pinned (OpenSpec.ofChange fnExactInteriorOfWrong)

/-- 'laws.FnExactOrderOf': WHATEVER THE INPUT: true; the input reads as it did. -/
def fnExactOrderOfSpec : ChangeSpec := { name := "fnExactOrderOf", fn := fun _ => fun
  | [d] => { results := [.lit (.bool true)], args := [d] }
  | _ => none }
def fnExactOrderOfRow : OpenClaim := { program := "ythogljcjjmclcaa", sum := "0e606693d15f5c70b64e0f15a26fb8e428f81a82b45fdaee9e9962a302c2a8cf", func := "loop.example/g01089/laws.FnExactOrderOf", spec := "fnExactOrderOf", unfollowed := true, recurses := true, apart := false }
def FnExactOrderOfSaid : Prop := fnExactOrderOfRow.holds Try.pinned (OpenSpec.ofChange fnExactOrderOfSpec)

/-- ITS FALSE NEIGHBOUR: 'it returns false'. Refute it at one input. -/
def fnExactOrderOfWrong : ChangeSpec := { name := "fnExactOrderOf", fn := fun _ => fun
  | [d] => { results := [.lit (.bool false)], args := [d] }
  | _ => none }
def FnExactOrderOfWrongFalsely : Prop := fnExactOrderOfRow.holds Try.pinned (OpenSpec.ofChange fnExactOrderOfWrong)

/-- 'laws.FnExactCoversOf': WHATEVER THE INPUT: true; the input reads as it did. -/
def fnExactCoversOfSpec : ChangeSpec := { name := "fnExactCoversOf", fn := fun _ => fun
  | [d] => { results := [.lit (.bool true)], args := [d] }
  | _ => none }
def fnExactCoversOfRow : OpenClaim := { program := "ythogljcjjmclcaa", sum := "0e606693d15f5c70b64e0f15a26fb8e428f81a82b45fdaee9e9962a302c2a8cf", func := "loop.example/g01089/laws.FnExactCoversOf", spec := "fnExactCoversOf", unfollowed := true, recurses := true, apart := false }
def FnExactCoversOfSaid : Prop := fnExactCoversOfRow.holds Try.pinned (OpenSpec.ofChange fnExactCoversOfSpec)

/-- ITS FALSE NEIGHBOUR: 'it returns false'. Refute it at one input. -/
def fnExactCoversOfWrong : ChangeSpec := { name := "fnExactCoversOf", fn := fun _ => fun
  | [d] => { results := [.lit (.bool false)], args := [d] }
  | _ => none }
def FnExactCoversOfWrongFalsely : Prop := fnExactCoversOfRow.holds Try.pinned (OpenSpec.ofChange fnExactCoversOfWrong)

/-- 'laws.FnExactSumPosets': WHATEVER THE INPUT: true; the input reads as it did. -/
def fnExactSumPosetsSpec : ChangeSpec := { name := "fnExactSumPosets", fn := fun _ => fun
  | [d1, d2] => { results := [.lit (.bool true)], args := [d1, d2] }
  | _ => none }
def fnExactSumPosetsRow : OpenClaim := { program := "ythogljcjjmclcaa", sum := "0e606693d15f5c70b64e0f15a26fb8e428f81a82b45fdaee9e9962a302c2a8cf", func := "loop.example/g01089/laws.FnExactSumPosets", spec := "fnExactSumPosets", unfollowed := true, recurses := true, apart := false }
def FnExactSumPosetsSaid : Prop := fnExactSumPosetsRow.holds Try.pinned (OpenSpec.ofChange fnExactSumPosetsSpec)

/-- ITS FALSE NEIGHBOUR: 'it returns false'. Refute it at one input. -/
def fnExactSumPosetsWrong : ChangeSpec := { name := "fnExactSumPosets", fn := fun _ => fun
  | [d1, d2] => { results := [.lit (.bool false)], args := [d1, d2] }
  | _ => none }
def FnExactSumPosetsWrongFalsely : Prop := fnExactSumPosetsRow.holds Try.pinned (OpenSpec.ofChange fnExactSumPosetsWrong)

/-- 'laws.FnExactWidthOf': WHATEVER THE INPUT: true; the input reads as it did. -/
def fnExactWidthOfSpec : ChangeSpec := { name := "fnExactWidthOf", fn := fun _ => fun
  | [d] => { results := [.lit (.bool true)], args := [d] }
  | _ => none }
def fnExactWidthOfRow : OpenClaim := { program := "ythogljcjjmclcaa", sum := "0e606693d15f5c70b64e0f15a26fb8e428f81a82b45fdaee9e9962a302c2a8cf", func := "loop.example/g01089/laws.FnExactWidthOf", spec := "fnExactWidthOf", unfollowed := true, recurses := true, apart := false }
def FnExactWidthOfSaid : Prop := fnExactWidthOfRow.holds Try.pinned (OpenSpec.ofChange fnExactWidthOfSpec)

/-- ITS FALSE NEIGHBOUR: 'it returns false'. Refute it at one input. -/
def fnExactWidthOfWrong : ChangeSpec := { name := "fnExactWidthOf", fn := fun _ => fun
  | [d] => { results := [.lit (.bool false)], args := [d] }
  | _ => none }
def FnExactWidthOfWrongFalsely : Prop := fnExactWidthOfRow.holds Try.pinned (OpenSpec.ofChange fnExactWidthOfWrong)

/-- 'laws.FnExactIsValuation': WHATEVER THE INPUT: true; the input reads as it did. -/
def fnExactIsValuationSpec : ChangeSpec := { name := "fnExactIsValuation", fn := fun _ => fun
  | [d1, d2] => { results := [.lit (.bool true)], args := [d1, d2] }
  | _ => none }
def fnExactIsValuationRow : OpenClaim := { program := "ythogljcjjmclcaa", sum := "0e606693d15f5c70b64e0f15a26fb8e428f81a82b45fdaee9e9962a302c2a8cf", func := "loop.example/g01089/laws.FnExactIsValuation", spec := "fnExactIsValuation", unfollowed := true, recurses := true, apart := false }
def FnExactIsValuationSaid : Prop := fnExactIsValuationRow.holds Try.pinned (OpenSpec.ofChange fnExactIsValuationSpec)

/-- ITS FALSE NEIGHBOUR: 'it returns false'. Refute it at one input. -/
def fnExactIsValuationWrong : ChangeSpec := { name := "fnExactIsValuation", fn := fun _ => fun
  | [d1, d2] => { results := [.lit (.bool false)], args := [d1, d2] }
  | _ => none }
def FnExactIsValuationWrongFalsely : Prop := fnExactIsValuationRow.holds Try.pinned (OpenSpec.ofChange fnExactIsValuationWrong)

/-- 'laws.FnExactFrameFlags': WHATEVER THE INPUT: true; the input reads as it did. -/
def fnExactFrameFlagsSpec : ChangeSpec := { name := "fnExactFrameFlags", fn := fun _ => fun
  | [d] => { results := [.lit (.bool true)], args := [d] }
  | _ => none }
def fnExactFrameFlagsRow : OpenClaim := { program := "ythogljcjjmclcaa", sum := "0e606693d15f5c70b64e0f15a26fb8e428f81a82b45fdaee9e9962a302c2a8cf", func := "loop.example/g01089/laws.FnExactFrameFlags", spec := "fnExactFrameFlags", unfollowed := true, recurses := true, apart := false }
def FnExactFrameFlagsSaid : Prop := fnExactFrameFlagsRow.holds Try.pinned (OpenSpec.ofChange fnExactFrameFlagsSpec)

/-- ITS FALSE NEIGHBOUR: 'it returns false'. Refute it at one input. -/
def fnExactFrameFlagsWrong : ChangeSpec := { name := "fnExactFrameFlags", fn := fun _ => fun
  | [d] => { results := [.lit (.bool false)], args := [d] }
  | _ => none }
def FnExactFrameFlagsWrongFalsely : Prop := fnExactFrameFlagsRow.holds Try.pinned (OpenSpec.ofChange fnExactFrameFlagsWrong)

/- THE SECOND FORM. 'bulk': how many values and letters a reading holds, each counted each time it is reached (what is shared counts as often as it is met; a slice's spare places count too). A statement '..UptoSaid' is the law's where the arguments, and the package variables that the reading takes, are together of bulk at most 1048576: NARROWER than '..Said'. Prove '..Said' where nothing that the law and all that it calls make is longer than what came in: it says more and counts as full. Else prove '..UptoSaid'. A law counts once. -/
mutual
def uptoBulk {H : Type} : DataW H → Nat
  | .lit (.string bytes) => bytes.length + 1
  | .lit _ => 1
  | .nil => 1
  | .ptr d => uptoBulk d + 1
  | .slice elems spare => uptoBulkAll elems + uptoBulkAll spare + 1
  | .agg parts => uptoBulkAll parts + 1
  | .iface _ d => uptoBulk d + 1
  | .map entries => uptoBulkEntries entries + 1
  | .held _ => 1
def uptoBulkAll {H : Type} : List (DataW H) → Nat
  | [] => 0
  | d :: r => uptoBulk d + uptoBulkAll r
def uptoBulkEntries {H : Type} : List (Lit × DataW H) → Nat
  | [] => 0
  | x :: r => uptoBulkEntry x + uptoBulkEntries r
def uptoBulkEntry {H : Type} : Lit × DataW H → Nat
  | (.string bytes, d) => bytes.length + uptoBulk d + 1
  | (_, d) => uptoBulk d + 1
 end
def uptoSmall : (H : Type) → List (DataW H) → Bool := fun _ ds => decide (uptoBulkAll ds ≤ 1048576)
def OpenSpec.upto (s : _root_.Go.ChangeSpec) : _root_.Go.OpenSpec := { _root_.Go.OpenSpec.ofChange s with cond := some uptoSmall }

/-- 'laws.FnExactIsPoset', WHERE WHAT IT READS IS OF BULK AT MOST 1048576: true; the input reads as it did. -/
def fnExactIsPosetUptoRow : OpenClaim := { program := "ythogljcjjmclcaa", sum := "0e606693d15f5c70b64e0f15a26fb8e428f81a82b45fdaee9e9962a302c2a8cf", func := "loop.example/g01089/laws.FnExactIsPoset", spec := "fnExactIsPoset", unfollowed := true, recurses := true, apart := false, narrowed := true }
def FnExactIsPosetUptoSaid : Prop := fnExactIsPosetUptoRow.holds Try.pinned (OpenSpec.upto fnExactIsPosetSpec)

/-- 'laws.FnExactMaximalOf', WHERE WHAT IT READS IS OF BULK AT MOST 1048576: true; the input reads as it did. -/
def fnExactMaximalOfUptoRow : OpenClaim := { program := "ythogljcjjmclcaa", sum := "0e606693d15f5c70b64e0f15a26fb8e428f81a82b45fdaee9e9962a302c2a8cf", func := "loop.example/g01089/laws.FnExactMaximalOf", spec := "fnExactMaximalOf", unfollowed := true, recurses := true, apart := false, narrowed := true }
def FnExactMaximalOfUptoSaid : Prop := fnExactMaximalOfUptoRow.holds Try.pinned (OpenSpec.upto fnExactMaximalOfSpec)

/-- 'laws.FnExactUpsetOf', WHERE WHAT IT READS IS OF BULK AT MOST 1048576: true; the input reads as it did. -/
def fnExactUpsetOfUptoRow : OpenClaim := { program := "ythogljcjjmclcaa", sum := "0e606693d15f5c70b64e0f15a26fb8e428f81a82b45fdaee9e9962a302c2a8cf", func := "loop.example/g01089/laws.FnExactUpsetOf", spec := "fnExactUpsetOf", unfollowed := true, recurses := true, apart := false, narrowed := true }
def FnExactUpsetOfUptoSaid : Prop := fnExactUpsetOfUptoRow.holds Try.pinned (OpenSpec.upto fnExactUpsetOfSpec)

/-- 'laws.FnExactDualPoset', WHERE WHAT IT READS IS OF BULK AT MOST 1048576: true; the input reads as it did. -/
def fnExactDualPosetUptoRow : OpenClaim := { program := "ythogljcjjmclcaa", sum := "0e606693d15f5c70b64e0f15a26fb8e428f81a82b45fdaee9e9962a302c2a8cf", func := "loop.example/g01089/laws.FnExactDualPoset", spec := "fnExactDualPoset", unfollowed := true, recurses := true, apart := false, narrowed := true }
def FnExactDualPosetUptoSaid : Prop := fnExactDualPosetUptoRow.holds Try.pinned (OpenSpec.upto fnExactDualPosetSpec)

/-- 'laws.FnExactInteriorOf', WHERE WHAT IT READS IS OF BULK AT MOST 1048576: true; the input reads as it did. -/
def fnExactInteriorOfUptoRow : OpenClaim := { program := "ythogljcjjmclcaa", sum := "0e606693d15f5c70b64e0f15a26fb8e428f81a82b45fdaee9e9962a302c2a8cf", func := "loop.example/g01089/laws.FnExactInteriorOf", spec := "fnExactInteriorOf", unfollowed := true, recurses := true, apart := false, narrowed := true }
def FnExactInteriorOfUptoSaid : Prop := fnExactInteriorOfUptoRow.holds Try.pinned (OpenSpec.upto fnExactInteriorOfSpec)

/-- 'laws.FnExactOrderOf', WHERE WHAT IT READS IS OF BULK AT MOST 1048576: true; the input reads as it did. -/
def fnExactOrderOfUptoRow : OpenClaim := { program := "ythogljcjjmclcaa", sum := "0e606693d15f5c70b64e0f15a26fb8e428f81a82b45fdaee9e9962a302c2a8cf", func := "loop.example/g01089/laws.FnExactOrderOf", spec := "fnExactOrderOf", unfollowed := true, recurses := true, apart := false, narrowed := true }
def FnExactOrderOfUptoSaid : Prop := fnExactOrderOfUptoRow.holds Try.pinned (OpenSpec.upto fnExactOrderOfSpec)

/-- 'laws.FnExactCoversOf', WHERE WHAT IT READS IS OF BULK AT MOST 1048576: true; the input reads as it did. -/
def fnExactCoversOfUptoRow : OpenClaim := { program := "ythogljcjjmclcaa", sum := "0e606693d15f5c70b64e0f15a26fb8e428f81a82b45fdaee9e9962a302c2a8cf", func := "loop.example/g01089/laws.FnExactCoversOf", spec := "fnExactCoversOf", unfollowed := true, recurses := true, apart := false, narrowed := true }
def FnExactCoversOfUptoSaid : Prop := fnExactCoversOfUptoRow.holds Try.pinned (OpenSpec.upto fnExactCoversOfSpec)

/-- 'laws.FnExactSumPosets', WHERE WHAT IT READS IS OF BULK AT MOST 1048576: true; the input reads as it did. -/
def fnExactSumPosetsUptoRow : OpenClaim := { program := "ythogljcjjmclcaa", sum := "0e606693d15f5c70b64e0f15a26fb8e428f81a82b45fdaee9e9962a302c2a8cf", func := "loop.example/g01089/laws.FnExactSumPosets", spec := "fnExactSumPosets", unfollowed := true, recurses := true, apart := false, narrowed := true }
def FnExactSumPosetsUptoSaid : Prop := fnExactSumPosetsUptoRow.holds Try.pinned (OpenSpec.upto fnExactSumPosetsSpec)

/-- 'laws.FnExactWidthOf', WHERE WHAT IT READS IS OF BULK AT MOST 1048576: true; the input reads as it did. -/
def fnExactWidthOfUptoRow : OpenClaim := { program := "ythogljcjjmclcaa", sum := "0e606693d15f5c70b64e0f15a26fb8e428f81a82b45fdaee9e9962a302c2a8cf", func := "loop.example/g01089/laws.FnExactWidthOf", spec := "fnExactWidthOf", unfollowed := true, recurses := true, apart := false, narrowed := true }
def FnExactWidthOfUptoSaid : Prop := fnExactWidthOfUptoRow.holds Try.pinned (OpenSpec.upto fnExactWidthOfSpec)

/-- 'laws.FnExactIsValuation', WHERE WHAT IT READS IS OF BULK AT MOST 1048576: true; the input reads as it did. -/
def fnExactIsValuationUptoRow : OpenClaim := { program := "ythogljcjjmclcaa", sum := "0e606693d15f5c70b64e0f15a26fb8e428f81a82b45fdaee9e9962a302c2a8cf", func := "loop.example/g01089/laws.FnExactIsValuation", spec := "fnExactIsValuation", unfollowed := true, recurses := true, apart := false, narrowed := true }
def FnExactIsValuationUptoSaid : Prop := fnExactIsValuationUptoRow.holds Try.pinned (OpenSpec.upto fnExactIsValuationSpec)

/-- 'laws.FnExactFrameFlags', WHERE WHAT IT READS IS OF BULK AT MOST 1048576: true; the input reads as it did. -/
def fnExactFrameFlagsUptoRow : OpenClaim := { program := "ythogljcjjmclcaa", sum := "0e606693d15f5c70b64e0f15a26fb8e428f81a82b45fdaee9e9962a302c2a8cf", func := "loop.example/g01089/laws.FnExactFrameFlags", spec := "fnExactFrameFlags", unfollowed := true, recurses := true, apart := false, narrowed := true }
def FnExactFrameFlagsUptoSaid : Prop := fnExactFrameFlagsUptoRow.holds Try.pinned (OpenSpec.upto fnExactFrameFlagsSpec)

end Rows
end Go.Proofs.Ythogljcjjmclcaa
