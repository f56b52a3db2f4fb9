/- GW: models and contracts, printed by wip/gen/gen.py -/
import Derived.Test.YtkilkfhjfobcdaaKCHGQ
set_option linter.unusedVariables false
set_option linter.unusedSimpArgs false
namespace Go.Proofs.Ytkilkfhjfobcdaa
open Go.RowKit
theorem tr2_len (ap : List Int) (k : Int) (r : Nat) (i : Int) (b : List Int) : (F_transitive_L2 ap k r i b).2.length = b.length := by
  induction r generalizing i b with
  | zero => rfl
  | succ r ih =>
    show (F_transitive_L2b ap k _ i b).2.length = _
    unfold F_transitive_L2b
    cases decide (i < (ap.length : Int))
    · rfl
    · rw [cond_true, ih]
      cases F_has (gI b i) k
      · rfl
      · rw [cond_true, sI_len]
theorem tr1_len (ap : List Int) (r : Nat) (i : Int) (b : List Int) : (F_transitive_L1 ap r i b).2.length = b.length := by
  induction r generalizing i b with
  | zero => rfl
  | succ r ih =>
    show (F_transitive_L1b ap _ i b).2.length = _
    unfold F_transitive_L1b
    cases decide (i < (ap.length : Int))
    · rfl
    · rw [cond_true, ih, tr2_len]
theorem transitive_len (ap : List Int) : (F_transitive ap).length = ap.length := tr1_len ap _ _ ap
theorem gI_sI {xs : List Int} {i : Nat} {v : Int} (h : i < xs.length) (j : Nat) : gI (sI xs (i : Int) v) (j : Int) = if i = j then v else gI xs (j : Int) := by
  unfold sI gI
  rw [Int.toNat_natCast, Int.toNat_natCast, gi_set h]
theorem Rl.set {n : Nat} {a : List Int} (h : Rl n a) {i : Nat} (hi : i < n) {v : Int} (hv : Mk n v) : Rl n (sI a (i : Int) v) := by
  refine ⟨by rw [sI_len]; exact h.1, fun j hj => ?_⟩
  rw [gI_sI (by rw [h.1]; exact hi)]
  by_cases e : i = j
  · rw [if_pos e]; exact hv
  · rw [if_neg e]; exact h.2 j hj
end Go.Proofs.Ytkilkfhjfobcdaa
