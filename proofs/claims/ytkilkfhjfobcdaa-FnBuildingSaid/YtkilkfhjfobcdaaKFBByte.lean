/- Byte: slices of bytes that are read. No statement about the program is made here. -/
import Derived.Test.YtkilkfhjfobcdaaKFBNest
import Derived.Test.YtkilkfhjfobcdaaKFBBits
set_option linter.unusedVariables false
namespace Go.Proofs.Ytkilkfhjfobcdaa
open Go.RowKit
/-- A slice of bytes at this address reads as these numbers. -/
def RdB (w : World) (a : Option Addr) (n c : Nat) (xs : List Int) : Prop :=
  n = xs.length ∧ n ≤ 9223372036854775807 ∧ (0 < n → a.isSome = true) ∧ ∀ k, k < n → w.cell? (adr a k) = some (.int .u8 (gi xs k)) ∧ 0 ≤ gi xs k ∧ gi xs k ≤ 255
theorem RdB.ext {w w' : World} {a : Option Addr} {n c : Nat} {xs : List Int} (h : RdB w a n c xs) (he : Ext w w') : RdB w' a n c xs :=
  ⟨h.1, h.2.1, h.2.2.1, fun k hk => ⟨he.cell (h.2.2.2 k hk).1, (h.2.2.2 k hk).2⟩⟩
theorem RdB.len {w : World} {a : Option Addr} {n c : Nat} {xs : List Int} (h : RdB w a n c xs) : n = xs.length := h.1
theorem RdB.le {w : World} {a : Option Addr} {n c : Nat} {xs : List Int} (h : RdB w a n c xs) : n ≤ 9223372036854775807 := h.2.1
theorem RdB.isS {w : World} {a : Option Addr} {n c : Nat} {xs : List Int} (h : RdB w a n c xs) {m : Int} (h0 : 0 ≤ m) (h1 : m < (n : Int)) : a.isSome = true := h.2.2.1 (by omega)
theorem RdB.elt {w : World} {a : Option Addr} {n c : Nat} {xs : List Int} (h : RdB w a n c xs) {m : Int} (h0 : 0 ≤ m) (h1 : m < (n : Int)) : ∀ w', Ext w w' → w'.cell? (adr a m.toNat) = some (.int .u8 (gI xs m)) :=
  fun w' he => he.cell (h.2.2.2 m.toNat (by omega)).1
theorem RdB.bd {w : World} {a : Option Addr} {n c : Nat} {xs : List Int} (h : RdB w a n c xs) (m : Int) : 0 ≤ gI xs m ∧ gI xs m ≤ 255 := by
  by_cases hk : m.toNat < n
  · exact (h.2.2.2 m.toNat hk).2
  · have : gI xs m = 0 := gi_out (by have := h.1; omega)
    omega
theorem RdB.nilB (w : World) : RdB w none 0 0 [] := ⟨rfl, by decide, fun h => by omega, fun k hk => by omega⟩
theorem andU_bd (m k : Int) (h0 : 0 ≤ k) (h1 : k < 9223372036854775808) : 0 ≤ andU m k ∧ andU m k ≤ k := by
  have e : andU m k = IntKind.u64.wrap (((BitVec.ofInt 64 m &&& BitVec.ofInt 64 k).toNat : Nat) : Int) := rfl
  have hl : (BitVec.ofInt 64 m &&& BitVec.ofInt 64 k).toNat ≤ k.toNat := by
    rw [BitVec.toNat_and, ofInt_toNat h0 h1]; exact Nat.and_le_right
  rw [e, wU64 (by omega) (by omega)]
  omega
/-! Functions without results; pieces that are only read, laid anew. -/
section
variable {P : Program} {a : Act} {n : Nat} {L : List (Nat × Value)} {w w0 : World} {Γ : List Ent}
end
end Go.Proofs.Ytkilkfhjfobcdaa
