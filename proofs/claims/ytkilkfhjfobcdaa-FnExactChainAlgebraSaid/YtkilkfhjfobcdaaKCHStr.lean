/- Str: slices whose elements are structs of two or three numbers, parts of slices. No statement about the program is made here. -/
import Derived.Test.YtkilkfhjfobcdaaKCHLoud
import Derived.Lib.AppendZeros
import Derived.Deep.MidRow
set_option linter.unusedVariables false
namespace Go.Proofs.Ytkilkfhjfobcdaa
open Go.RowKit
theorem addr_add_add (a : Addr) (k j : Nat) : (a.add k).add j = a.add (k + j) := by
  unfold Addr.add
  by_cases hk : k = 0
  · subst hk; simp
  · by_cases hj : j = 0
    · subst hj; simp
    · simp [hk, hj, Nat.add_assoc]
/-- The list with another number in field j of element m. -/
def sS (s j : Nat) (xs : List Int) (m y : Int) : List Int := xs.set (m.toNat * s + j) y
theorem sS_len (s j : Nat) (xs : List Int) (m y : Int) : (sS s j xs m y).length = xs.length := by simp [sS]
/-- Elements l .. h - 1. -/
def slI (s : Nat) (xs : List Int) (l h : Int) : List Int := (xs.drop (l.toNat * s)).take ((h.toNat - l.toNat) * s)
/-- Where a part of a slice begins. -/
def subA (a : Option Addr) (l m s : Nat) : Option Addr := if m = l then a else a.map (·.add (l * s))
section
variable {w w0 : World} {Γ : List Ent} {i s : Nat} {a : Option Addr} {n c : Nat} {xs : List Int} {m : Int}
theorem RdS.lenD (h : RdS w s a n c xs) (hs : 0 < s) : xs.length / s = n := by rw [h.1]; exact Nat.mul_div_cancel _ hs
theorem RdS.ev (h : RdS w s a n c xs) (hs : 0 < s) : xs.length = xs.length / s * s := by rw [h.lenD hs]; exact h.1
theorem slI_len (h : xs.length = n * s) {l k : Int} (h1 : k ≤ (n : Int)) : (slI s xs l k).length = (k.toNat - l.toNat) * s := by
  unfold slI
  rw [List.length_take, List.length_drop, h, ← Nat.sub_mul]
  refine Nat.min_eq_left (Nat.mul_le_mul_right _ ?_)
  omega
theorem RdS.sub (hR : RdS w s a n c xs) {l k : Int} {n' c' : Nat} (m : Nat) (h0 : 0 ≤ l) (h1 : l ≤ k) (h2 : k ≤ (n : Int)) (hm : k.toNat ≤ m) (hm2 : m ≤ c) (hn : k.toNat - l.toNat = n') (hc : m - l.toNat = c') :
    RdS w s (subA a l.toNat m s) n' c' (slI s xs l k) := by
  obtain ⟨e1, e2, e3, e4, e5⟩ := hR
  subst hn; subst hc
  refine ⟨slI_len e1 h2, by omega, by omega, fun hn => ?_, fun j hj => ?_⟩
  · cases a with
    | none => have := e4 rfl; omega
    | some p => unfold subA at hn; split at hn <;> simp at hn
  · have hl := slI_len (l := l) e1 h2
    have hj' : j < (k.toNat - l.toNat) * s := by rw [← hl]; exact hj
    have hpos : 0 < k.toNat - l.toNat := by
      rcases Nat.eq_zero_or_pos (k.toNat - l.toNat) with h | h
      · rw [h] at hj'; simp at hj'
      · exact h
    have hne : m ≠ l.toNat := by omega
    have hb : l.toNat * s + j < xs.length := by
      rw [e1]
      calc l.toNat * s + j < l.toNat * s + (k.toNat - l.toNat) * s := by omega
        _ = k.toNat * s := by rw [← Nat.add_mul]; congr 1; omega
        _ ≤ n * s := Nat.mul_le_mul_right _ (by omega)
    have h5 := e5 (l.toNat * s + j) hb
    have ha : adr (subA a l.toNat m s) j = adr a (l.toNat * s + j) := by
      unfold subA
      rw [if_neg hne]
      cases a with
      | none => have := (e4 rfl).1; omega
      | some p => unfold adr; simp [addr_add_add]
    have hg : gi (slI s xs l k) j = gi xs (l.toNat * s + j) := by
      unfold gi slI
      rw [List.getD_eq_getElem?_getD, List.getD_eq_getElem?_getD, List.getElem?_take_of_lt hj', List.getElem?_drop]
    rw [ha, hg]; exact h5
/-- A part of a slice that is read, as a piece of its own. -/
theorem RdS.subBlk {g l m : Nat} (h : (subA a l m s).map (·.block) = some g) : a.map (·.block) = some g := by
  cases a with
  | none => unfold subA at h; split at h <;> simp at h
  | some p =>
    unfold subA at h
    split at h
    · exact h
    · simp only [Option.map_some, Option.some.injEq] at h ⊢
      rw [← h]; unfold Addr.add; split <;> rfl
end
section
variable {P : Program} {S : World → Prop} {L : List (Nat × Value)} {dst : Option Tmp} {t ty : TypeId} {pos : String} {af : Array Edge} {gd : Option (Nat × Bool)} {x y z : Operand}
variable {a : Option Addr} {n c s n' c' : Nat} {kl kh km : IntKind} {l h m : Int}
end
/-! writing -/
section
variable {P : Program} {Q : Exit → Act → World → Prop} {a : Act} {n : Nat} {L : List (Nat × Value)} {w w0 : World} {K : Act → World → Prop} {Γ : List Ent} {i : Nat}
variable {ty : TypeId} {pos : String} {af : Array Edge} {gd : Option (Nat × Bool)} {d : Nat} {x y : Operand} {v : Value} {t : TypeId}
end
end Go.Proofs.Ytkilkfhjfobcdaa
