/- Byte: slices of bytes that are read. No statement about the program is made here. -/
import Derived.Test.YtlbonhloeefnmaaKDWNest
import Derived.Test.YtlbonhloeefnmaaKDWBits
set_option linter.unusedVariables false
namespace Go.Proofs.Ytlbonhloeefnmaa
open Go.RowKit
/-- A slice of bytes at this address reads as these numbers. -/
def RdB (w : World) (a : Option Addr) (n c : Nat) (xs : List Int) : Prop :=
  n = xs.length ∧ n ≤ 9223372036854775807 ∧ (0 < n → a.isSome = true) ∧ ∀ k, k < n → w.cell? (adr a k) = some (.int .u8 (gi xs k)) ∧ 0 ≤ gi xs k ∧ gi xs k ≤ 255
theorem RdB.ext {w w' : World} {a : Option Addr} {n c : Nat} {xs : List Int} (h : RdB w a n c xs) (he : Ext w w') : RdB w' a n c xs :=
  ⟨h.1, h.2.1, h.2.2.1, fun k hk => ⟨he.cell (h.2.2.2 k hk).1, (h.2.2.2 k hk).2⟩⟩
theorem RdB.len {w : World} {a : Option Addr} {n c : Nat} {xs : List Int} (h : RdB w a n c xs) : n = xs.length := h.1
theorem RdB.le {w : World} {a : Option Addr} {n c : Nat} {xs : List Int} (h : RdB w a n c xs) : n ≤ 9223372036854775807 := h.2.1
theorem RdB.isS {w : World} {a : Option Addr} {n c : Nat} {xs : List Int} (h : RdB w a n c xs) {m : Int} (h0 : 0 ≤ m) (h1 : m < (n : Int)) : a.isSome = true := h.2.2.1 (by omega)
theorem RdB.elt {w : World} {a : Option Addr} {n c : Nat} {xs : List Int} (h : RdB w a n c xs) {m : Int} (h0 : 0 ≤ m) (h1 : m < (n : Int)) : ∀ w', Ext w w' → w'.cell? (adr a m.toNat) = some (.int .u8 (gI xs m)) :=
  fun w' he => he.cell (h.2.2.2 m.toNat (by omega)).1
/-! Functions without results; pieces that are only read, laid anew. -/
section
variable {P : Program} {a : Act} {n : Nat} {L : List (Nat × Value)} {w w0 : World} {Γ : List Ent}
end
end Go.Proofs.Ytlbonhloeefnmaa
