/- GQ: models and contracts, printed by wip/gen/gen.py -/
import Derived.Test.YtkilkfhjfobcdaaKFTGD
set_option linter.unusedVariables false
set_option linter.unusedSimpArgs false
namespace Go.Proofs.Ytkilkfhjfobcdaa
open Go.RowKit
theorem bit_small {mask : Int} {i j : Nat} (h : mask.toNat < 2 ^ i) (hj : i ≤ j) : mask.toNat.testBit j = false :=
  Nat.testBit_lt_two_pow (Nat.lt_of_lt_of_le h (Nat.pow_le_pow_right (by decide) hj))
theorem full_toNat {n : Nat} {mask : Int} (h0 : 0 ≤ mask) (h : mask ≤ fullI (n : Int)) : mask.toNat < 2 ^ n := by
  unfold fullI at h
  rw [Int.toNat_natCast] at h
  have : ((2 : Int) ^ n) = ((2 ^ n : Nat) : Int) := by norm_cast
  have h2 : 0 < 2 ^ n := Nat.pow_pos (by decide)
  rw [this] at h; omega
/-- Bit j of a mask. -/
def tb (m : Int) (j : Nat) : Bool := m.toNat.testBit j
/-- A mask of n bits. -/
def Mk (n : Nat) (m : Int) : Prop := 0 ≤ m ∧ m ≤ fullI (n : Int)
theorem le_full {m n : Nat} (h : m < 2 ^ n) : (m : Int) ≤ fullI (n : Int) := by
  unfold fullI
  rw [Int.toNat_natCast]
  have : ((2 : Int) ^ n) = ((2 ^ n : Nat) : Int) := by norm_cast
  rw [this]; omega
theorem Mk.lt {n : Nat} {m : Int} (h : Mk n m) : m.toNat < 2 ^ n := full_toNat h.1 h.2
theorem Mk.sm {n : Nat} {m : Int} (h : Mk n m) (hn : n ≤ 62) : m < 4611686018427387904 := by
  have := fullI_bd (n := (n : Int)) (by omega) (by omega)
  have := h.2; omega
theorem Mk.of {n : Nat} {m : Int} (h0 : 0 ≤ m) (h : m.toNat < 2 ^ n) : Mk n m := by
  refine ⟨h0, ?_⟩
  have := le_full h
  omega
theorem Mk.zero (n : Nat) : Mk n 0 := Mk.of (by omega) (Nat.pow_pos (by decide))
theorem tb_zero (j : Nat) : tb 0 j = false := Nat.zero_testBit j
theorem tb_big {n : Nat} {m : Int} (h : Mk n m) {j : Nat} (hj : n ≤ j) : tb m j = false := bit_small h.lt hj
theorem tb_lt {n : Nat} {m : Int} (h : Mk n m) {j : Nat} (hj : tb m j = true) : j < n := by
  apply Decidable.byContradiction; intro h'
  rw [tb_big h (by omega)] at hj; cases hj
theorem tb_ext {a b : Int} (ha : 0 ≤ a) (hb : 0 ≤ b) (h : ∀ j, tb a j = tb b j) : a = b := by
  have : a.toNat = b.toNat := Nat.eq_of_testBit_eq h
  omega
theorem Mk.ofBits {n : Nat} {m : Int} (h0 : 0 ≤ m) (h : ∀ j, tb m j = true → j < n) : Mk n m :=
  Mk.of h0 (Nat.lt_pow_two_of_testBit _ fun j hj => by
    cases e : m.toNat.testBit j
    · rfl
    · have := h j e; omega)
theorem Mk.or {n : Nat} (hn : n ≤ 62) {a b : Int} (ha : Mk n a) (hb : Mk n b) : Mk n (orI a b) ∧ ∀ j, tb (orI a b) j = (tb a j || tb b j) := by
  have h1 := ha.sm hn
  have h2 := hb.sm hn
  obtain ⟨h3, h4, h5⟩ := orI_testBit ha.1 (by omega) hb.1 (by omega)
  refine ⟨Mk.ofBits h3 fun j hj => ?_, h5⟩
  have e : tb (orI a b) j = (tb a j || tb b j) := h5 j
  rw [e, Bool.or_eq_true] at hj
  rcases hj with h | h
  · exact tb_lt ha h
  · exact tb_lt hb h
theorem tb_pow (t j : Nat) : tb (powI (t : Int)) j = decide (t = j) := by
  unfold tb powI
  have e : ((2 : Int) ^ (t : Int).toNat).toNat = 2 ^ t := by
    rw [Int.toNat_natCast]
    have : ((2 : Int) ^ t) = ((2 ^ t : Nat) : Int) := by norm_cast
    rw [this, Int.toNat_natCast]
  rw [e, Nat.testBit_two_pow]
theorem Mk.pow {n t : Nat} (ht : t < n) : Mk n (powI (t : Int)) :=
  Mk.ofBits (by unfold powI; exact Int.pow_nonneg (by decide)) fun j hj => by
    rw [tb_pow] at hj
    have := of_decide_eq_true hj; omega
/-- i sees j. -/
def rb (a : List Int) (i j : Nat) : Bool := tb (gI a (i : Int)) j
end Go.Proofs.Ytkilkfhjfobcdaa
