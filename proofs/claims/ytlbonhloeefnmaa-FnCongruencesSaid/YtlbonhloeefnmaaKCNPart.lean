/- Operations on parts of a struct: a load of a field that is a struct itself. No program in it. -/
import Derived.Test.YtlbonhloeefnmaaKCNLoud
import Derived.Deep.MidRow
set_option linter.unusedVariables false
namespace Go.Proofs.Ytlbonhloeefnmaa
open Go
section
variable {P : Program} {S : World → Prop} {L : List (Nat × Value)} {dst : Option Tmp} {t ty : TypeId} {pos : String} {af : Array Edge} {gd : Option (Nat × Bool)} {x : Operand}
end
/-- Two slices of the call's own, apart. -/
def Own2 (w : World) (B : Nat) (t : TypeId) (a : Option Addr) (n c : Nat) (xs : List Int) (a2 : Option Addr) (n2 c2 : Nat) (ys : List Int) : Prop :=
  OwnS w B t 1 a n c xs ∧ OwnS w B t 1 a2 n2 c2 ys ∧ apt (.own t 1 a n c xs) (.own t 1 a2 n2 c2 ys)
theorem St.own2 {w0 w : World} {Γ : List Ent} {t : TypeId} {a a2 : Option Addr} {n c n2 c2 : Nat} {xs ys : List Int} (i j : Nat) (h : St w0 w Γ) (hi : Γ[i]? = some (.own t 1 a n c xs)) (hj : Γ[j]? = some (.own t 1 a2 n2 c2 ys)) (hij : i ≠ j) : Own2 w w0.heap.size t a n c xs a2 n2 c2 ys :=
  ⟨h.ok i _ hi, h.ok j _ hj, h.apart i j _ _ hij hi hj⟩
theorem St.push2 {w0 w w' : World} {Γ : List Ent} {t : TypeId} {a a2 : Option Addr} {n c n2 c2 : Nat} {xs ys : List Int} (h : St w0 w Γ) (he : Ext w w') (ho : Own2 w' w.heap.size t a n c xs a2 n2 c2 ys) : St w0 w' (.own t 1 a n c xs :: .own t 1 a2 n2 c2 ys :: Γ) := by
  obtain ⟨h1, h2, h3⟩ := ho
  have A := h.own he h1
  have B := h.own he h2
  refine ⟨A.ext, fun i e hi => ?_, fun i j e e' hij hi hj => ?_⟩
  · cases i with
    | zero => exact A.ok 0 e hi
    | succ i => exact B.ok i e hi
  · cases i with
    | zero =>
      cases j with
      | zero => exact absurd rfl hij
      | succ j =>
        cases j with
        | zero =>
          simp only [List.getElem?_cons_zero, List.getElem?_cons_succ, Option.some.injEq] at hi hj
          subst hi; subst hj; exact h3
        | succ j => exact A.apart 0 (j + 1) e e' (by omega) hi hj
    | succ i =>
      cases j with
      | zero =>
        cases i with
        | zero =>
          simp only [List.getElem?_cons_zero, List.getElem?_cons_succ, Option.some.injEq] at hi hj
          subst hi; subst hj; exact h3.symm
        | succ i => exact (A.apart 0 (i + 1) e' e (by omega) hj hi).symm
      | succ j => exact B.apart i j e e' (by omega) hi hj
section
variable {P : Program} {w w0 : World} {Γ : List Ent} {a : Act} {n : Nat} {L : List (Nat × Value)} {t ty : TypeId} {pos : String} {af : Array Edge} {gd : Option (Nat × Bool)} {x y : Operand} {K : Act → World → Prop} {Q : Exit → Act → World → Prop}
end
end Go.Proofs.Ytlbonhloeefnmaa
