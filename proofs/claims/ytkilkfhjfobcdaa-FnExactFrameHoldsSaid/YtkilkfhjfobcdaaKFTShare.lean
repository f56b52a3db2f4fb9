/- Share: slices of slices whose rows are new, and shared. No statement about the program is made here. -/
import Derived.Test.YtkilkfhjfobcdaaKFTByte
set_option linter.unusedVariables false
namespace Go.Proofs.Ytkilkfhjfobcdaa
open Go.RowKit
variable {w0 w : World} {Γ : List Ent} {i : Nat} {t : TypeId} {s : Nat} {a : Option Addr} {c : Nat} {hs hs2 : List Hd} {xss : List (List Int)}
/-- The rows' blocks are new since a world of B blocks. -/
def FrH (B : Nat) (hs : List Hd) : Prop := ∀ h : Hd, h ∈ hs → ∀ k, h.a.map (·.block) = some k → B ≤ k
theorem FrH.nil (B : Nat) : FrH B [] := fun h hh => by cases hh
theorem FrH.mono {B B' : Nat} (h : FrH B hs) (hB : B' ≤ B) : FrH B' hs := fun d hd k hk => Nat.le_trans hB (h d hd k hk)
theorem FrH.at {B : Nat} (h : FrH B hs) (m : Int) (n c : Nat) : FrH B [⟨hdA hs m, n, c⟩] := fun d hd k hk => by
  rw [List.mem_singleton] at hd
  subst hd
  unfold hdA at hk
  by_cases hl : m.toNat < hs.length
  · exact h _ (List.mem_of_getElem? (getD_some (d := default) hl)) k hk
  · have e : hs.getD m.toNat default = default := by
      show hs[m.toNat]?.getD default = _
      rw [List.getElem?_eq_none (by omega)]; rfl
    rw [e] at hk; cases hk
/-! Elements of three numbers. -/
section
variable {P : Program} {Q : Exit → Act → World → Prop} {a : Act} {n : Nat} {L : List (Nat × Value)} {w w0 : World} {K : Act → World → Prop} {Γ : List Ent} {i : Nat}
variable {ty : TypeId} {pos : String} {af : Array Edge} {gd : Option (Nat × Bool)} {d : Nat} {x y : Operand} {v : Value} {t : TypeId}
/-- A struct of three numbers is stored into an element. -/
theorem l_storeE3 {k n1 c : Nat} {e : TypeId} {b : Option Addr} {xs : List Int} {m u1 u2 u3 : Int} (hS : St w0 w Γ) (hE : E a n L) (hz : ∀ w, (sizeOf t).run P w = .ok 3 w) (hx : ev L x = some (.pointer (some (adr b (m.toNat * 3))))) (hy : ev L y = some (.agg #[.int .i64 u1, .int .i64 u2, .int .i64 u3])) (hk : Γ[k]? = some (.own e 3 b n1 c xs)) (h0 : 0 ≤ m) (h1 : m < n1)
    (hK : ∀ w', St w0 w' (Γ.set k (.own e 3 b n1 c (sS 3 2 (sS 3 1 (sS 3 0 xs m u1) m u2) m u3))) → ∀ a', E a' n L → K a' w') : Oper.wp P ⟨none, .store t x y, ty, pos, af, gd⟩ a w K Q := by
  have hR := hS.rdO hk
  have hkl : k < Γ.length := by
    rcases Nat.lt_or_ge k Γ.length with h | h
    · exact h
    · rw [List.getElem?_eq_none h] at hk; cases hk
  have hlt : m.toNat * 3 + 0 < xs.length := by rw [hR.1]; exact lt_flat h0 h1 (by decide)
  have hlt2 : m.toNat * 3 + 1 < (xs.set (m.toNat * 3 + 0) u1).length := by rw [List.length_set, hR.1]; exact lt_flat h0 h1 (by decide)
  have hlt3 : m.toNat * 3 + 2 < ((xs.set (m.toNat * 3 + 0) u1).set (m.toNat * 3 + 1) u2).length := by rw [List.length_set, List.length_set, hR.1]; exact lt_flat h0 h1 (by decide)
  obtain ⟨s1, f1⟩ := hS.storeS hk hlt u1
  have hk1 : (Γ.set k (.own e 3 b n1 c (xs.set (m.toNat * 3 + 0) u1)))[k]? = some (.own e 3 b n1 c (xs.set (m.toNat * 3 + 0) u1)) := by rw [List.getElem?_set_self hkl]
  obtain ⟨s2, f2⟩ := s1.storeS hk1 hlt2 u2
  rw [List.set_set] at s2
  have hk2 : (Γ.set k (.own e 3 b n1 c ((xs.set (m.toNat * 3 + 0) u1).set (m.toNat * 3 + 1) u2)))[k]? = some (.own e 3 b n1 c ((xs.set (m.toNat * 3 + 0) u1).set (m.toNat * 3 + 1) u2)) := by rw [List.getElem?_set_self hkl]
  obtain ⟨s3, f3⟩ := s2.storeS hk2 hlt3 u3
  rw [List.set_set] at s3
  have e0 : True := trivial
  have c1 := hR.eltN h0 h1 (j := 0) (by decide) w (Ext.refl w)
  have c2 := (s1.rdO hk1).eltN h0 h1 (j := 1) (by decide) _ (Ext.refl _)
  have c3 := (s2.rdO hk2).eltN h0 h1 (j := 2) (by decide) _ (Ext.refl _)
  refine l_unit hE rfl (w' := ((w.setCell (adr b (m.toNat * 3 + 0)) (.int .i64 u1)).setCell (adr b (m.toNat * 3 + 1)) (.int .i64 u2)).setCell (adr b (m.toNat * 3 + 2)) (.int .i64 u3)) ?_ (hK _ s3)
  simp only [Nat.add_zero] at s1 f1 c1 f2 c2 f3 c3 e0 ⊢
  have e1 : (store ((adr b (m.toNat * 3)).add 0) (.int .i64 u1)).run P w = .ok () (w.setCell (adr b (m.toNat * 3)) (.int .i64 u1)) := by
    rw [adr_add, Nat.add_zero, run_store P w _ _ _ rfl]; simp [f1, c1]
  have e2 : (store ((adr b (m.toNat * 3)).add 1) (.int .i64 u2)).run P (w.setCell (adr b (m.toNat * 3)) (.int .i64 u1)) = .ok () ((w.setCell (adr b (m.toNat * 3)) (.int .i64 u1)).setCell (adr b (m.toNat * 3 + 1)) (.int .i64 u2)) := by
    rw [adr_add, run_store P _ _ _ _ rfl]; simp [f2, c2]
  have e3 : (store ((adr b (m.toNat * 3)).add 2) (.int .i64 u3)).run P ((w.setCell (adr b (m.toNat * 3)) (.int .i64 u1)).setCell (adr b (m.toNat * 3 + 1)) (.int .i64 u2)) = .ok () (((w.setCell (adr b (m.toNat * 3)) (.int .i64 u1)).setCell (adr b (m.toNat * 3 + 1)) (.int .i64 u2)).setCell (adr b (m.toNat * 3 + 2)) (.int .i64 u3)) := by
    rw [adr_add, run_store P _ _ _ _ rfl]; simp [f3, c3]
  simp only [execOp, hE.eval hx, hE.eval hy, Instr.storeAt, Instr.sureAddr, storeVar, Value.cells, Sem.run_bind, hz]
  simp [storeCells, e1, e2, e3]
theorem madeInts3 (j : Nat) : madeCells (Value.agg #[.int .i64 0, .int .i64 0, .int .i64 0]).cells (j * 3) = (intV (List.replicate (j * 3) 0)).toArray := by
  apply Array.ext
  · simp [size_madeCells, intV]
  · intro k h1 h2
    simp only [intV, List.map_replicate, List.getElem_toArray, List.getElem_replicate]
    simp only [madeCells, Array.getElem_map, Array.getElem_range, Value.cells]
    have h : k % 3 = 0 ∨ k % 3 = 1 ∨ k % 3 = 2 := by omega
    rcases h with h | h | h <;> simp [h]
/-- 'make([]T, m)', T a struct of three numbers. -/
theorem l_make3 {e : TypeId} {m : Int} (hS : St w0 w Γ) (hE : E a n L) (hi : (P.info? e).map (fun i => (i.zero, i.size, i.bytes)) = some (some (.agg #[.int .i64 0, .int .i64 0, .int .i64 0]), 3, 24)) (hu : P.underlying t = some (.slice e)) (hx : ev L x = some (.int .i64 m)) (hy : ev L y = some (.int .i64 m)) (h0 : 0 ≤ m) (h1 : m ≤ 4294967296) (hn : Nat.blt d n = true) {n' : Nat} (hn' : m.toNat = n')
    (hK : ∀ b w', St w0 w' (.own e 3 b n' n' (List.replicate (m.toNat * 3) 0) :: Γ) → Ext w w' → ∀ a', E a' n ((d, .slice b n' n') :: L) → K a' w') : Oper.wp P ⟨some d, .makeSlice t x y, ty, pos, af, gd⟩ a w K Q := by
  obtain ⟨i, hi, hz, hs, hb⟩ := info_parts hi
  subst hn'
  have hr := run_make (P := P) w t e i (.agg #[.int .i64 0, .int .i64 0, .int .i64 0]) hu hi hz .i64 .i64 m m h0 (Int.le_refl _) (by rw [hb]; omega) (by omega)
  rw [hs] at hr
  have hc := madeInts3 m.toNat
  rw [hc] at hr
  refine l_val hE rfl hn ?_ (hK (some ⟨w.heap.size, 0, none⟩) _ (hS.mkOwn (by simp) (by unfold maxLen; omega)) ((Ext.refl w).alloc _))
  simp [execOp, hE.eval hx, hE.eval hy, hr]
end
end Go.Proofs.Ytkilkfhjfobcdaa
