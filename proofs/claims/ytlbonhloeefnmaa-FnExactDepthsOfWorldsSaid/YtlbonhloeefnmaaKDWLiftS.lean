/- LiftS: the arguments of a law, opened for the engine. -/
import Derived.Test.YtlbonhloeefnmaaKDWLift
import Derived.Test.YtlbonhloeefnmaaKDWHeap
import Derived.Lib.SmallJoins
set_option linter.unusedVariables false
namespace Go.Proofs.Ytlbonhloeefnmaa
open Go.ChangeShapes Go.WideShapes Go.ChangeAt Go.RowKit Go.Joins Go.Deep
section
variable {H : Type} {enc : TypeId × Value → H} {W : World}
set_option maxRecDepth 100000 in
theorem opS {fuel : Nat} {v : Value} {y : DataW H × List MemPlace} (h : DataW.trod enc Try.prog W 0 (fun _ => true) true fuel 22 [v] = some y) :
    ∃ (a : Option Addr) (c : Nat) (xs : List Int), v = .slice a xs.length c ∧ RdS W 1 a xs.length c xs := by
  rcases open_ints undI64s undI64 cellsI64 h with ⟨hcs, hx⟩ | ⟨a, len, cap, zs, hcs, _, hl, hm, hz, hx, hcell, hwz⟩
  · simp at hcs
    exact ⟨none, 0, [], hcs, RdS.nilS _ _⟩
  · simp at hcs
    simp only [if_true] at hz
    have hlen : (zs.take len).length = len := by simp; omega
    refine ⟨some a, cap, zs.take len, by rw [hlen]; exact hcs, by rw [Nat.mul_one], by rw [hlen]; exact hl, hm, (fun h => by cases h), fun k hk => ?_⟩
    rw [hlen] at hk
    have := hcell k (by omega)
    show W.cell? (a.add k) = _
    rw [this]
    unfold gi
    rw [List.getD_eq_getElem?_getD, List.getD_eq_getElem?_getD, List.getElem?_take_of_lt hk]
theorem opI {fuel : Nat} {v : Value} {y : DataW H × List MemPlace} (h : DataW.trod enc Try.prog W 0 (fun _ => true) true fuel 2 [v] = some y) : ∃ m : Int, v = .int .i64 m ∧ inI m := by
  obtain ⟨m, hc, _, hw⟩ := DataW.trod_int undI64 h
  simp at hc
  refine ⟨m, hc, ?_⟩
  simpa [Lit.wf, IntKind.min, IntKind.max, IntKind.signed, IntKind.bits, inI] using hw
set_option maxRecDepth 100000 in
theorem argIS {base : Nat} {t : TypeId} {f0 f1 : Field} {v : Value} {d : DataW H} {p : List MemPlace} (hs : Try.prog.underlying t = some (.struct #[f0, f1])) (h0 : f0.type = 2) (h1 : f1.type = 22) (hone : oneCellFields Try.prog #[f0, f1] = true) (hC : Try.prog.cellsOf t = 2)
    (hval : Value.okWide Try.prog W .any base t v) (h : DataW.Trod enc Try.prog W 0 (fun _ => true) true t v d p) :
    ∃ (m : Int) (a : Option Addr) (c : Nat) (xs : List Int), v = .agg #[.int .i64 m, .slice a xs.length c] ∧ inI m ∧ RdS W 1 a xs.length c xs := by
  obtain ⟨v0, v1, y0, y1, n, rfl, _, _, t0, t1⟩ := open_agg2 hs hone hC hval h
  rw [h0] at t0
  rw [h1] at t1
  obtain ⟨m, rfl, hm⟩ := opI t0
  obtain ⟨a, c, xs, rfl, hr⟩ := opS t1
  exact ⟨m, a, c, xs, rfl, hm, hr⟩
end
end Go.Proofs.Ytlbonhloeefnmaa
