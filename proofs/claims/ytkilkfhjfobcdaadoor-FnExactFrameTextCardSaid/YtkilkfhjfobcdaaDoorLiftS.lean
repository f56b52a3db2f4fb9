/- LiftS: the arguments of a law, opened for the engine. -/
import Derived.Test.YtkilkfhjfobcdaaDoorLift
import Derived.Test.YtkilkfhjfobcdaaDoorHeap
import Derived.Lib.SmallJoins
set_option linter.unusedVariables false
namespace Go.Proofs.YtkilkfhjfobcdaaDoor
open Go.ChangeShapes Go.WideShapes Go.ChangeAt Go.RowKit Go.Joins Go.Deep

section
variable {H : Type} {enc : TypeId × Value → H} {W : World}
set_option maxRecDepth 100000 in
theorem opS {fuel : Nat} {v : Value} {y : DataW H × List MemPlace} (h : DataW.trod enc Tryd.prog W 0 (fun _ => true) true fuel 22 [v] = some y) :
    ∃ (a : Option Addr) (c : Nat) (xs : List Int), v = .slice a xs.length c ∧ RdS W 1 a xs.length c xs := by
  rcases open_ints undI64s undI64 cellsI64 h with ⟨hcs, hx⟩ | ⟨a, len, cap, zs, hcs, _, hl, hm, hz, hx, hcell, hwz⟩
  · simp at hcs
    exact ⟨none, 0, [], hcs, RdS.nilS _ _⟩
  · simp at hcs
    simp only [if_true] at hz
    have hlen : (zs.take len).length = len := by simp; omega
    refine ⟨some a, cap, zs.take len, by rw [hlen]; exact hcs, by rw [Nat.mul_one], by rw [hlen]; exact hl, hm, (fun h => by cases h), fun k hk => ?_⟩
    rw [hlen] at hk
    have := hcell k (by omega)
    show W.cell? (a.add k) = _
    rw [this]
    unfold gi
    rw [List.getD_eq_getElem?_getD, List.getD_eq_getElem?_getD, List.getElem?_take_of_lt hk]
theorem opI {fuel : Nat} {v : Value} {y : DataW H × List MemPlace} (h : DataW.trod enc Tryd.prog W 0 (fun _ => true) true fuel 2 [v] = some y) : ∃ m : Int, v = .int .i64 m ∧ inI m := by
  obtain ⟨m, hc, _, hw⟩ := DataW.trod_int undI64 h
  simp at hc
  refine ⟨m, hc, ?_⟩
  simpa [Lit.wf, IntKind.min, IntKind.max, IntKind.signed, IntKind.bits, inI] using hw
set_option maxRecDepth 100000 in
theorem argS {base : Nat} {v : Value} {d : DataW H} {p : List MemPlace} (hval : Value.okWide Tryd.prog W .any base 22 v) (h : DataW.Trod enc Tryd.prog W 0 (fun _ => true) true 22 v d p) :
    ∃ (a : Option Addr) (c : Nat) (xs : List Int), v = .slice a xs.length c ∧ RdS W 1 a xs.length c xs := by
  obtain ⟨a0, len, cap, rfl⟩ := okWide_slice undI64s hval
  obtain ⟨fuel, hf⟩ := h
  exact opS hf
set_option maxRecDepth 100000 in
theorem argI {base : Nat} {v : Value} {d : DataW H} {p : List MemPlace} (hval : Value.okWide Tryd.prog W .any base 2 v) (h : DataW.Trod enc Tryd.prog W 0 (fun _ => true) true 2 v d p) : ∃ m : Int, v = .int .i64 m ∧ inI m := by
  obtain ⟨m, rfl⟩ := okWide_int undI64 hval
  obtain ⟨fuel, hf⟩ := h
  exact opI hf
set_option maxRecDepth 100000 in
theorem argIS {base : Nat} {t : TypeId} {f0 f1 : Field} {v : Value} {d : DataW H} {p : List MemPlace} (hs : Tryd.prog.underlying t = some (.struct #[f0, f1])) (h0 : f0.type = 2) (h1 : f1.type = 22) (hone : oneCellFields Tryd.prog #[f0, f1] = true) (hC : Tryd.prog.cellsOf t = 2)
    (hval : Value.okWide Tryd.prog W .any base t v) (h : DataW.Trod enc Tryd.prog W 0 (fun _ => true) true t v d p) :
    ∃ (m : Int) (a : Option Addr) (c : Nat) (xs : List Int), v = .agg #[.int .i64 m, .slice a xs.length c] ∧ inI m ∧ RdS W 1 a xs.length c xs := by
  obtain ⟨v0, v1, y0, y1, n, rfl, _, _, t0, t1⟩ := open_agg2 hs hone hC hval h
  rw [h0] at t0
  rw [h1] at t1
  obtain ⟨m, rfl, hm⟩ := opI t0
  obtain ⟨a, c, xs, rfl, hr⟩ := opS t1
  exact ⟨m, a, c, xs, rfl, hm, hr⟩
set_option maxRecDepth 100000 in
theorem argISS {base : Nat} {t tf : TypeId} {f0 f1 g0 g1 : Field} {v : Value} {d : DataW H} {p : List MemPlace} (hs : Tryd.prog.underlying t = some (.struct #[f0, f1])) (hsf : Tryd.prog.underlying tf = some (.struct #[g0, g1])) (h0 : f0.type = tf) (h1 : f1.type = 22) (k0 : g0.type = 2) (k1 : g1.type = 22)
    (ho : (f0.offset, f1.offset, g0.offset, g1.offset) = (0, 2, 0, 1)) (hC : (Tryd.prog.cellsOf t, Tryd.prog.cellsOf tf, Tryd.prog.cellsOf 2, Tryd.prog.cellsOf 22) = (3, 2, 1, 1))
    (hval : Value.okWide Tryd.prog W .any base t v) (h : DataW.Trod enc Tryd.prog W 0 (fun _ => true) true t v d p) :
    ∃ (m : Int) (a : Option Addr) (c : Nat) (xs : List Int) (a2 : Option Addr) (c2 : Nat) (ys : List Int), v = .agg #[.int .i64 m, .slice a xs.length c, .slice a2 ys.length c2] ∧ inI m ∧ RdS W 1 a xs.length c xs ∧ RdS W 1 a2 ys.length c2 ys := by
  simp only [Prod.mk.injEq] at ho hC
  obtain ⟨o0, o1, o2, o3⟩ := ho
  obtain ⟨c0, c1, c2, c3⟩ := hC
  obtain ⟨cs, rfl, hsz⟩ := okWide_struct hs hval
  obtain ⟨v0, v1, v2, rfl⟩ := array3 (hsz.trans c0)
  obtain ⟨fuel, hf⟩ := h
  obtain ⟨y0, y1, n, hx, _, t0, t1⟩ := trod_struct2 hs hf
  rw [h0, o0, c1] at t0
  rw [h1, o1, c3] at t1
  obtain ⟨z0, z1, n2, _, _, u0, u1⟩ := trod_struct2 hsf t0
  rw [k0, o2, c2] at u0
  rw [k1, o3, c3] at u1
  obtain ⟨m, e0, hm⟩ := opI (v := v0) (by simpa [Value.cells] using u0)
  obtain ⟨a, c, xs, e1, hr⟩ := opS (v := v1) (by simpa [Value.cells] using u1)
  obtain ⟨a2, c2, ys, e2, hr2⟩ := opS (v := v2) (by simpa [Value.cells] using t1)
  subst e0; subst e1; subst e2
  exact ⟨m, a, c, xs, a2, c2, ys, rfl, hm, hr, hr2⟩
end
end Go.Proofs.YtkilkfhjfobcdaaDoor
