/- Bits: Go's operations on bits of int64, as natural numbers. No statement about the program is made here. -/
import Derived.Test.YtkilkfhjfobcdaaKFBEng
set_option linter.unusedVariables false
namespace Go.Proofs.Ytkilkfhjfobcdaa
theorem ofInt_toNat {m : Int} (h0 : 0 ≤ m) (h1 : m < 9223372036854775808) : (BitVec.ofInt 64 m).toNat = m.toNat := by
  rw [BitVec.toNat_ofInt]
  congr 1
  exact Int.emod_eq_of_lt h0 (by omega)
end Go.Proofs.Ytkilkfhjfobcdaa
