/- Operations on parts of a struct: a load of a field that is a struct itself. No program in it. -/
import Derived.Test.YtkilkfhjfobcdaaKFTLoud
import Derived.Deep.MidRow
set_option linter.unusedVariables false
namespace Go.Proofs.Ytkilkfhjfobcdaa
open Go
section
variable {P : Program} {S : World → Prop} {L : List (Nat × Value)} {dst : Option Tmp} {t ty : TypeId} {pos : String} {af : Array Edge} {gd : Option (Nat × Bool)} {x : Operand}
theorem range_of_row {w : World} {b o : Nat} {cs : Array Value} {ds : List Value} {t' : TypeId} {fr : Nat × Nat} (h : w.heap[b]? = some (.cells cs t' fr)) (hds : (cs.toList.drop o).take ds.length = ds) : w.rangeAt b o ds := by
  intro j v hv
  rw [cell_of_row w b (o + j) cs t' fr h]
  have hj : j < ds.length := by
    rcases Nat.lt_or_ge j ds.length with h | h
    · exact h
    · rw [List.getElem?_eq_none h] at hv; cases hv
  rw [← hds, List.getElem?_take, if_pos hj, List.getElem?_drop] at hv
  simpa using hv
theorem y_loadP {b o : Nat} {cs : Array Value} {ds : List Value} {t' : TypeId} {d : TypeDesc} (hu : P.underlying t = some d) (hd : d.isRow = true) (hi : (P.info? t).map (·.size) = some ds.length) (hds : (cs.toList.drop o).take ds.length = ds)
    (hx : ev L x = some (.pointer (some ⟨b, o, none⟩))) (h : ∀ w, S w → w.heap[b]? = some (.cells cs t' (0, 0))) : Yld P S L ⟨dst, .load t x, ty, pos, af, gd⟩ (.agg ds.toArray) := fun a n hE w hw => by
  simp [execOp, hE.eval hx, Instr.loadAt, Instr.sureAddr, run_loadVar_mid w b o t ds d (range_of_row (h w hw) hds) hu hd hi]
end
section
variable {P : Program} {w w0 : World} {Γ : List Ent} {a : Act} {n : Nat} {L : List (Nat × Value)} {t ty : TypeId} {pos : String} {af : Array Edge} {gd : Option (Nat × Bool)} {x y : Operand} {K : Act → World → Prop} {Q : Exit → Act → World → Prop}
end
end Go.Proofs.Ytkilkfhjfobcdaa
