/- LiftN: arguments that are slices of structs of numbers, and slices of slices, opened for the engine. -/
import Derived.Test.YtkilkfhjfobcdaaKFTLiftS
import Derived.Test.YtkilkfhjfobcdaaKFTNest
import Derived.Deep.Slices
import Derived.Deep.Strs
set_option linter.unusedVariables false
namespace Go.Proofs.Ytkilkfhjfobcdaa
open Go.ChangeShapes Go.WideShapes Go.ChangeAt Go.RowKit Go.Joins Go.Deep
section
variable {H : Type} {enc : TypeId × Value → H} {W : World}
/-- All cells of an element are numbers. -/
def IntsIn (H : Type) (enc : TypeId × Value → H) (W : World) (e : TypeId) (s : Nat) : Prop := ∀ (n : Nat) (cs : List Value) (y : DataW H × List MemPlace), DataW.trod enc Try.prog W 0 (fun _ => true) true n e cs = some y → ∀ j, j < s → ∃ v : Int, cs[j]? = some (.int .i64 v)
theorem opStr {t e : TypeId} {s fuel : Nat} {v : Value} {y : DataW H × List MemPlace} (ht : Try.prog.underlying t = some (.slice e)) (ce : Try.prog.cellsOf e = s) (hs : 0 < s) (hel : IntsIn H enc W e s)
    (h : DataW.trod enc Try.prog W 0 (fun _ => true) true fuel t [v] = some y) : ∃ (a : Option Addr) (c : Nat) (xs : List Int), v = .slice a (xs.length / s) c ∧ RdS W s a (xs.length / s) c xs := by
  rcases open_slice ht h with ⟨hcs, hx⟩ | ⟨a, len, cap, m, n, D, Pl, hcs, _, hl, hm, hmm, _, hx⟩
  · simp at hcs
    exact ⟨none, 0, [], by simpa using hcs, by simpa using RdS.nilS W s⟩
  · simp at hcs
    simp only [if_true] at hmm
    rw [ce] at hx
    have each : ∀ k, k < len * s → ∃ x : Int, W.cell? (a.add k) = some (.int .i64 x) := fun k hk => by
      have hi : k / s < len := Nat.div_lt_of_lt_mul (by rw [Nat.mul_comm]; exact hk)
      have hj : k % s < s := Nat.mod_lt _ hs
      obtain ⟨cs', h1, h2⟩ := hx (k / s) (by omega)
      obtain ⟨_, hlen, hcell⟩ := World.cells?_some h1
      obtain ⟨x, hx⟩ := hel _ _ _ h2 (k % s) hj
      refine ⟨x, ?_⟩
      have := hcell (k % s) (by omega)
      rw [addr_add_add, hx] at this
      rw [show k / s * s + k % s = k from by rw [Nat.mul_comm]; exact Nat.div_add_mod k s] at this
      exact this
    obtain ⟨V, hV⟩ := choose_lt each
    have hlen : ((List.range (len * s)).map V).length = len * s := by simp
    have hd : ((List.range (len * s)).map V).length / s = len := by rw [hlen]; exact Nat.mul_div_cancel _ hs
    refine ⟨some a, cap, (List.range (len * s)).map V, by rw [hd]; exact hcs, by rw [hd]; exact hlen, by rw [hd]; exact hl, hm, (fun h => by cases h), fun k hk => ?_⟩
    rw [hlen] at hk
    rw [gi_get (by rw [hlen]; exact hk)]
    simp only [List.getElem_map, List.getElem_range]
    exact hV k hk
theorem ints3 {e : TypeId} {f0 f1 f2 : Field} (he : Try.prog.underlying e = some (.struct #[f0, f1, f2])) (h0 : f0.type = 2) (h1 : f1.type = 2) (h2 : f2.type = 2) (ho : (f0.offset, f1.offset, f2.offset) = (0, 1, 2)) : IntsIn H enc W e 3 := fun n cs y h j hj => by
  simp only [Prod.mk.injEq] at ho
  obtain ⟨y0, y1, y2, k, _, _, t0, t1, t2⟩ := trod_struct3 he h
  rw [h0, ho.1, cellsI64] at t0
  rw [h1, ho.2.1, cellsI64] at t1
  rw [h2, ho.2.2, cellsI64] at t2
  obtain ⟨m0, c0, _, _⟩ := DataW.trod_int undI64 t0
  obtain ⟨m1, c1, _, _⟩ := DataW.trod_int undI64 t1
  obtain ⟨m2, c2, _, _⟩ := DataW.trod_int undI64 t2
  rcases j with _ | _ | _ | j
  · refine ⟨m0, ?_⟩
    have := congrArg (fun l => l[0]?) c0
    simpa [List.getElem?_take] using this
  · refine ⟨m1, ?_⟩
    have := congrArg (fun l => l[0]?) c1
    simpa [List.getElem?_take, List.getElem?_drop] using this
  · refine ⟨m2, ?_⟩
    have := congrArg (fun l => l[0]?) c2
    simpa [List.getElem?_take, List.getElem?_drop] using this
  · omega
set_option maxRecDepth 100000 in
theorem argStr {base : Nat} {t e : TypeId} {s : Nat} {v : Value} {d : DataW H} {p : List MemPlace} (ht : Try.prog.underlying t = some (.slice e)) (ce : Try.prog.cellsOf e = s) (hs : 0 < s) (hel : IntsIn H enc W e s)
    (hval : Value.okWide Try.prog W .any base t v) (h : DataW.Trod enc Try.prog W 0 (fun _ => true) true t v d p) : ∃ (a : Option Addr) (c : Nat) (xs : List Int), v = .slice a (xs.length / s) c ∧ RdS W s a (xs.length / s) c xs := by
  obtain ⟨a0, len, cap, rfl⟩ := okWide_slice ht hval
  obtain ⟨fuel, hf⟩ := h
  exact opStr ht ce hs hel hf
end
end Go.Proofs.Ytkilkfhjfobcdaa
