/- Operations on parts of a struct: a load of a field that is a struct itself. No program in it. -/
import Derived.Test.YtkilkfhjfobcdaaKPTLoud
import Derived.Deep.MidRow
set_option linter.unusedVariables false
namespace Go.Proofs.Ytkilkfhjfobcdaa
open Go
section
variable {P : Program} {S : World → Prop} {L : List (Nat × Value)} {dst : Option Tmp} {t ty : TypeId} {pos : String} {af : Array Edge} {gd : Option (Nat × Bool)} {x : Operand}
theorem range_of_row {w : World} {b o : Nat} {cs : Array Value} {ds : List Value} {t' : TypeId} {fr : Nat × Nat} (h : w.heap[b]? = some (.cells cs t' fr)) (hds : (cs.toList.drop o).take ds.length = ds) : w.rangeAt b o ds := by
  intro j v hv
  rw [cell_of_row w b (o + j) cs t' fr h]
  have hj : j < ds.length := by
    rcases Nat.lt_or_ge j ds.length with h | h
    · exact h
    · rw [List.getElem?_eq_none h] at hv; cases hv
  rw [← hds, List.getElem?_take, if_pos hj, List.getElem?_drop] at hv
  simpa using hv
theorem y_loadP {b o : Nat} {cs : Array Value} {ds : List Value} {t' : TypeId} {d : TypeDesc} (hu : P.underlying t = some d) (hd : d.isRow = true) (hi : (P.info? t).map (·.size) = some ds.length) (hds : (cs.toList.drop o).take ds.length = ds)
    (hx : ev L x = some (.pointer (some ⟨b, o, none⟩))) (h : ∀ w, S w → w.heap[b]? = some (.cells cs t' (0, 0))) : Yld P S L ⟨dst, .load t x, ty, pos, af, gd⟩ (.agg ds.toArray) := fun a n hE w hw => by
  simp [execOp, hE.eval hx, Instr.loadAt, Instr.sureAddr, run_loadVar_mid w b o t ds d (range_of_row (h w hw) hds) hu hd hi]
end
/-- Two slices of the call's own, apart. -/
def Own2 (w : World) (B : Nat) (t : TypeId) (a : Option Addr) (n c : Nat) (xs : List Int) (a2 : Option Addr) (n2 c2 : Nat) (ys : List Int) : Prop :=
  OwnS w B t 1 a n c xs ∧ OwnS w B t 1 a2 n2 c2 ys ∧ apt (.own t 1 a n c xs) (.own t 1 a2 n2 c2 ys)
theorem St.own2 {w0 w : World} {Γ : List Ent} {t : TypeId} {a a2 : Option Addr} {n c n2 c2 : Nat} {xs ys : List Int} (i j : Nat) (h : St w0 w Γ) (hi : Γ[i]? = some (.own t 1 a n c xs)) (hj : Γ[j]? = some (.own t 1 a2 n2 c2 ys)) (hij : i ≠ j) : Own2 w w0.heap.size t a n c xs a2 n2 c2 ys :=
  ⟨h.ok i _ hi, h.ok j _ hj, h.apart i j _ _ hij hi hj⟩
theorem St.push2 {w0 w w' : World} {Γ : List Ent} {t : TypeId} {a a2 : Option Addr} {n c n2 c2 : Nat} {xs ys : List Int} (h : St w0 w Γ) (he : Ext w w') (ho : Own2 w' w.heap.size t a n c xs a2 n2 c2 ys) : St w0 w' (.own t 1 a n c xs :: .own t 1 a2 n2 c2 ys :: Γ) := by
  obtain ⟨h1, h2, h3⟩ := ho
  have A := h.own he h1
  have B := h.own he h2
  refine ⟨A.ext, fun i e hi => ?_, fun i j e e' hij hi hj => ?_⟩
  · cases i with
    | zero => exact A.ok 0 e hi
    | succ i => exact B.ok i e hi
  · cases i with
    | zero =>
      cases j with
      | zero => exact absurd rfl hij
      | succ j =>
        cases j with
        | zero =>
          simp only [List.getElem?_cons_zero, List.getElem?_cons_succ, Option.some.injEq] at hi hj
          subst hi; subst hj; exact h3
        | succ j => exact A.apart 0 (j + 1) e e' (by omega) hi hj
    | succ i =>
      cases j with
      | zero =>
        cases i with
        | zero =>
          simp only [List.getElem?_cons_zero, List.getElem?_cons_succ, Option.some.injEq] at hi hj
          subst hi; subst hj; exact h3.symm
        | succ i => exact (A.apart 0 (i + 1) e' e (by omega) hj hi).symm
      | succ j => exact B.apart i j e e' (by omega) hi hj
section
variable {P : Program} {w w0 : World} {Γ : List Ent} {a : Act} {n : Nat} {L : List (Nat × Value)} {t ty : TypeId} {pos : String} {af : Array Edge} {gd : Option (Nat × Bool)} {x y : Operand} {K : Act → World → Prop} {Q : Exit → Act → World → Prop}
/-- A struct of two cells is stored into a part of a block. -/
theorem l_storeP {k b o : Nat} {cs cs' : Array Value} {u v : Value} {t' : TypeId} (hS : St w0 w Γ) (hE : E a n L) (hi : (P.info? t).map (·.size) = some 2) (hx : ev L x = some (.pointer (some ⟨b, o, none⟩))) (hy : ev L y = some (.agg #[u, v])) (h1 : #[u, v].all (·.oneCell') = true) (hk : Γ[k]? = some (.blk b cs t')) (ho : o + 1 < cs.size) (hcs : (cs.setIfInBounds o u).setIfInBounds (o + 1) v = cs')
    (hK : ∀ w', St w0 w' (Γ.set k (.blk b cs' t')) → ∀ a', E a' n L → K a' w') : Oper.wp P ⟨none, .store t x y, ty, pos, af, gd⟩ a w K Q := by
  have hrow := hS.row hk w (Ext.refl w)
  have hkl : k < Γ.length := by
    rcases Nat.lt_or_ge k Γ.length with h | h
    · exact h
    · rw [List.getElem?_eq_none h] at hk; cases hk
  have ht : w.there b o (#[u, v] : Array Value).size := fun j hj => by
    have hj : j < 2 := hj
    refine ⟨?_, by simp [World.frozen?, hrow]⟩
    rw [cell_of_row w b (o + j) cs t' (0, 0) hrow, Array.getElem?_eq_getElem (by omega)]; rfl
  have hr := run_storeVar_mid (P := P) w b o t #[u, v] ht hi h1
  have s1 := hS.setB (j := o) (v := u) hk rfl
  have hk1 : (Γ.set k (.blk b (cs.setIfInBounds o u) t'))[k]? = some (.blk b (cs.setIfInBounds o u) t') := by rw [List.getElem?_set_self hkl]
  have s2 := s1.setB (j := o + 1) (v := v) hk1 rfl
  rw [List.set_set, hcs] at s2
  refine l_unit hE rfl (w' := w.setCells b o [u, v]) (by simp [execOp, hE.eval hx, hE.eval hy, Instr.storeAt, Instr.sureAddr, hr]) (hK _ ?_)
  simpa only [World.setCells] using s2
end
end Go.Proofs.Ytkilkfhjfobcdaa
