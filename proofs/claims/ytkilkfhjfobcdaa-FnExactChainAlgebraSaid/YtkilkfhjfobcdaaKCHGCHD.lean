/- GCHD: models and contracts, printed by wip/gen/gen.py -/
import Derived.Test.YtkilkfhjfobcdaaKCHGHS2
import Derived.Test.YtkilkfhjfobcdaaKCHGHI2
set_option linter.unusedVariables false
set_option linter.unusedSimpArgs false
namespace Go.Proofs.Ytkilkfhjfobcdaa
open Go.RowKit
/-- What is checked for each length of a chain. -/
def chk9 (k : Nat) : Bool := F_Frame_hasFlag ((k : Nat) : Int) (chainL k) 0 && (F_Frame_hasFlag ((k : Nat) : Int) (chainL k) 2 && (F_Frame_hasFlag ((k : Nat) : Int) (chainL k) 8 && (F_l18Partial (chainL k) && (decide (0 ≤ F_l18Low (chainL k) (fullI (k : Int))) && decide (0 ≤ F_l18Low (F_l01Inverse (chainL k)) (fullI (k : Int)))))))
set_option maxRecDepth 100000 in
theorem chk9_all : (List.range 30).all (fun j => chk9 (j + 1)) = true := by decide +kernel
theorem chk9_at {k : Nat} (h0 : 1 ≤ k) (h1 : k ≤ 30) : chk9 k = true := by
  have := List.all_eq_true.1 chk9_all (k - 1) (List.mem_range.2 (by omega))
  rwa [show k - 1 + 1 = k by omega] at this
end Go.Proofs.Ytkilkfhjfobcdaa
