/- GRF: models and contracts, printed by wip/gen/gen.py -/
import Derived.Test.YtkilkfhjfobcdaaKFBGRE
set_option linter.unusedVariables false
set_option linter.unusedSimpArgs false
namespace Go.Proofs.Ytkilkfhjfobcdaa
open Go.RowKit
theorem isFm_t {ap : List Int} (he : ap.length = ap.length / 2 * 2) (h : F_l02Is ap = true) : IsFm ap ∧ ap.length ≤ 80 := ⟨IsFm.of he h, by have := l02Is_t h; omega⟩
theorem isFm_f {ap : List Int} (he : ap.length = ap.length / 2 * 2) (h : F_isFormula ap = true) : IsFm ap ∧ ap.length ≤ 80 := isFm_t he (by rw [← isFormula_eq]; exact h)
end Go.Proofs.Ytkilkfhjfobcdaa
