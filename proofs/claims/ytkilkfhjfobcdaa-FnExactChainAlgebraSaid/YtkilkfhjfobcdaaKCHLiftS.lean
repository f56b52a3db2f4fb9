/- LiftS: the arguments of a law, opened for the engine. -/
import Derived.Test.YtkilkfhjfobcdaaKCHLift
import Derived.Test.YtkilkfhjfobcdaaKCHHeap
import Derived.Lib.SmallJoins
set_option linter.unusedVariables false
namespace Go.Proofs.Ytkilkfhjfobcdaa
open Go.ChangeShapes Go.WideShapes Go.ChangeAt Go.RowKit Go.Joins Go.Deep
section
variable {H : Type} {enc : TypeId × Value → H} {W : World}
theorem opI {fuel : Nat} {v : Value} {y : DataW H × List MemPlace} (h : DataW.trod enc Try.prog W 0 (fun _ => true) true fuel 2 [v] = some y) : ∃ m : Int, v = .int .i64 m ∧ inI m := by
  obtain ⟨m, hc, _, hw⟩ := DataW.trod_int undI64 h
  simp at hc
  refine ⟨m, hc, ?_⟩
  simpa [Lit.wf, IntKind.min, IntKind.max, IntKind.signed, IntKind.bits, inI] using hw
set_option maxRecDepth 100000 in
theorem argI {base : Nat} {v : Value} {d : DataW H} {p : List MemPlace} (hval : Value.okWide Try.prog W .any base 2 v) (h : DataW.Trod enc Try.prog W 0 (fun _ => true) true 2 v d p) : ∃ m : Int, v = .int .i64 m ∧ inI m := by
  obtain ⟨m, rfl⟩ := okWide_int undI64 hval
  obtain ⟨fuel, hf⟩ := h
  exact opI hf
end
end Go.Proofs.Ytkilkfhjfobcdaa
