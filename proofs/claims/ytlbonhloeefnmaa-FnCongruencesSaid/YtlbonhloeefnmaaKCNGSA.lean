/- GSA: models and contracts, printed by wip/gen/gen.py -/
import Derived.Test.YtlbonhloeefnmaaKCNLoud
import Derived.Test.YtlbonhloeefnmaaKCNNest
set_option linter.unusedVariables false
set_option linter.unusedSimpArgs false
namespace Go.Proofs.Ytlbonhloeefnmaa
open Go.RowKit
/-- The number of all numbers. -/
def totL : List (List Int) → Nat
  | [] => 0
  | x :: l => x.length + totL l
theorem gL_get {l : List (List Int)} {i : Nat} (h : i < l.length) : gL l (i : Int) = l[i] := by
  unfold gL; rw [Int.toNat_natCast, List.getD_eq_getElem?_getD, List.getElem?_eq_getElem h]; rfl
theorem extL {l m : List (List Int)} (hl : l.length = m.length) (h : ∀ i : Nat, i < l.length → gL l (i : Int) = gL m (i : Int)) : l = m := by
  refine List.ext_getElem hl fun i h1 h2 => ?_
  have := h i h1
  rwa [gL_get h1, gL_get h2] at this
end Go.Proofs.Ytlbonhloeefnmaa
