/- Bits: Go's operations on bits of int64, as natural numbers. No statement about the program is made here. -/
import Derived.Test.YtkilkfhjfobcdaaDoorEng
set_option linter.unusedVariables false
namespace Go.Proofs.YtkilkfhjfobcdaaDoor

theorem ofInt_toNat {m : Int} (h0 : 0 ≤ m) (h1 : m < 9223372036854775808) : (BitVec.ofInt 64 m).toNat = m.toNat := by
  rw [BitVec.toNat_ofInt]
  congr 1
  exact Int.emod_eq_of_lt h0 (by omega)
theorem wI_nat {n : Nat} (h : n < 9223372036854775808) : wI (n : Int) = n := wI_in ⟨by omega, by omega⟩
theorem and_lt63 {a b : Nat} (h : a < 9223372036854775808) : a &&& b < 9223372036854775808 := Nat.lt_of_le_of_lt Nat.and_le_left h
theorem or_lt63 {a b : Nat} (h : a < 9223372036854775808) (h' : b < 9223372036854775808) : a ||| b < 9223372036854775808 := Nat.or_lt_two_pow (n := 63) h h'
theorem andI_nat {m k : Int} (h0 : 0 ≤ m) (h1 : m < 9223372036854775808) (h2 : 0 ≤ k) (h3 : k < 9223372036854775808) : andI m k = ((m.toNat &&& k.toNat : Nat) : Int) := by
  show wI (((BitVec.ofInt 64 m &&& BitVec.ofInt 64 k).toNat : Nat) : Int) = _
  rw [BitVec.toNat_and, ofInt_toNat h0 h1, ofInt_toNat h2 h3]
  exact wI_nat (and_lt63 (by omega))
theorem orI_nat {m k : Int} (h0 : 0 ≤ m) (h1 : m < 9223372036854775808) (h2 : 0 ≤ k) (h3 : k < 9223372036854775808) : orI m k = ((m.toNat ||| k.toNat : Nat) : Int) := by
  show wI (((BitVec.ofInt 64 m ||| BitVec.ofInt 64 k).toNat : Nat) : Int) = _
  rw [BitVec.toNat_or, ofInt_toNat h0 h1, ofInt_toNat h2 h3]
  exact wI_nat (or_lt63 (by omega) (by omega))
theorem anI_testBit {m k : Int} (h0 : 0 ≤ m) (h1 : m < 9223372036854775808) (h2 : 0 ≤ k) (h3 : k < 9223372036854775808) : 0 ≤ anI m k ∧ anI m k < 9223372036854775808 ∧ ∀ i, (anI m k).toNat.testBit i = (m.toNat.testBit i && !k.toNat.testBit i) := by
  have e : anI m k = wI (((BitVec.ofInt 64 m &&& ~~~ BitVec.ofInt 64 k).toNat : Nat) : Int) := rfl
  have hl : (BitVec.ofInt 64 m &&& ~~~ BitVec.ofInt 64 k).toNat < 9223372036854775808 := by
    rw [BitVec.toNat_and, ofInt_toNat h0 h1]; exact and_lt63 (by omega)
  rw [e, wI_nat hl]
  refine ⟨by omega, by omega, fun i => ?_⟩
  rw [Int.toNat_natCast, BitVec.testBit_toNat, BitVec.getLsbD_and, BitVec.getLsbD_not, ← BitVec.testBit_toNat, ← BitVec.testBit_toNat, ofInt_toNat h0 h1, ofInt_toNat h2 h3]
  by_cases hi : i < 64
  · simp [hi]
  · have : m.toNat.testBit i = false := Nat.testBit_lt_two_pow (Nat.lt_of_lt_of_le (show m.toNat < 2 ^ 63 by omega) (Nat.pow_le_pow_right (by omega) (by omega)))
    simp [this]
theorem andI_testBit {m k : Int} (h0 : 0 ≤ m) (h1 : m < 9223372036854775808) (h2 : 0 ≤ k) (h3 : k < 9223372036854775808) : 0 ≤ andI m k ∧ andI m k < 9223372036854775808 ∧ ∀ i, (andI m k).toNat.testBit i = (m.toNat.testBit i && k.toNat.testBit i) := by
  rw [andI_nat h0 h1 h2 h3]
  have := and_lt63 (a := m.toNat) (b := k.toNat) (by omega)
  exact ⟨by omega, by omega, fun i => by rw [Int.toNat_natCast, Nat.testBit_and]⟩
theorem orI_testBit {m k : Int} (h0 : 0 ≤ m) (h1 : m < 9223372036854775808) (h2 : 0 ≤ k) (h3 : k < 9223372036854775808) : 0 ≤ orI m k ∧ orI m k < 9223372036854775808 ∧ ∀ i, (orI m k).toNat.testBit i = (m.toNat.testBit i || k.toNat.testBit i) := by
  rw [orI_nat h0 h1 h2 h3]
  have := or_lt63 (a := m.toNat) (b := k.toNat) (by omega) (by omega)
  exact ⟨by omega, by omega, fun i => by rw [Int.toNat_natCast, Nat.testBit_or]⟩
theorem andI_le {m k : Int} (h0 : 0 ≤ m) (h1 : m < 9223372036854775808) (h2 : 0 ≤ k) (h3 : k < 9223372036854775808) : 0 ≤ andI m k ∧ andI m k ≤ m ∧ andI m k ≤ k := by
  rw [andI_nat h0 h1 h2 h3]
  have h4 : m.toNat &&& k.toNat ≤ m.toNat := Nat.and_le_left
  have h5 : m.toNat &&& k.toNat ≤ k.toNat := Nat.and_le_right
  omega
theorem anI_le {m k : Int} (h0 : 0 ≤ m) (h1 : m < 9223372036854775808) (h2 : 0 ≤ k) (h3 : k < 9223372036854775808) : 0 ≤ anI m k ∧ anI m k ≤ m := by
  obtain ⟨h4, h5, h6⟩ := anI_testBit h0 h1 h2 h3
  refine ⟨h4, ?_⟩
  have : (anI m k).toNat ≤ m.toNat := by
    have e : (anI m k).toNat = m.toNat &&& (anI m k).toNat := by
      apply Nat.eq_of_testBit_eq; intro i; rw [Nat.testBit_and, h6]; cases m.toNat.testBit i <;> simp
    rw [e]; exact Nat.and_le_left
  omega
theorem shrI_eq {m k : Int} (h0 : 0 ≤ k) (h1 : k ≤ 64) : shrI m k = m / 2 ^ k.toNat := by
  unfold shrI
  rw [Int.fdiv_eq_ediv_of_nonneg _ (Int.pow_nonneg (by decide)), show min k.toNat 64 = k.toNat by omega]
theorem shrI_nat {m k : Int} (hm : 0 ≤ m) (h0 : 0 ≤ k) (h1 : k ≤ 64) : shrI m k = ((m.toNat / 2 ^ k.toNat : Nat) : Int) := by
  rw [shrI_eq h0 h1]
  have : m = (m.toNat : Int) := by omega
  rw [this]; norm_cast
theorem pow_le62 {k : Int} (h0 : 0 ≤ k) (h1 : k ≤ 62) : (2 : Int) ^ k.toNat ≤ 4611686018427387904 ∧ 0 < (2 : Int) ^ k.toNat := by
  have h2 : (2 : Nat) ^ k.toNat ≤ 4611686018427387904 := Nat.le_trans (Nat.pow_le_pow_right (by omega) (show k.toNat ≤ 62 by omega)) (Nat.le_refl _)
  have h3 : (0 : Nat) < 2 ^ k.toNat := Nat.pos_of_ne_zero (by simp)
  have e : (2 : Int) ^ k.toNat = ((2 ^ k.toNat : Nat) : Int) := by rw [Int.natCast_pow]; rfl
  rw [e]; omega
theorem shlI_one {k : Int} (h0 : 0 ≤ k) (h1 : k ≤ 62) : shlI 1 k = 2 ^ k.toNat := by
  unfold shlI
  rw [show min k.toNat 64 = k.toNat by omega, Int.one_mul]
  have := pow_le62 h0 h1
  exact wI_in ⟨by omega, by omega⟩
theorem shlI_eq {m k : Int} (h0 : 0 ≤ k) (h1 : k ≤ 64) (h2 : 0 ≤ m) (h3 : m * 2 ^ k.toNat < 9223372036854775808) : shlI m k = m * 2 ^ k.toNat := by
  unfold shlI
  rw [show min k.toNat 64 = k.toNat by omega]
  have h4 : (0 : Int) ≤ 2 ^ k.toNat := Int.pow_nonneg (by decide)
  have := Int.mul_nonneg h2 h4
  exact wI_in ⟨by omega, by omega⟩
def powI (n : Int) : Int := 2 ^ n.toNat
theorem powI_bd {n : Int} (h0 : 0 ≤ n) (h1 : n ≤ 62) : 1 ≤ powI n ∧ powI n ≤ 4611686018427387904 := by
  have := pow_le62 h0 h1
  unfold powI; omega
/-- The mask of all of n elements. -/
def fullI (n : Int) : Int := 2 ^ n.toNat - 1
theorem fullI_bd {n : Int} (h0 : 0 ≤ n) (h1 : n ≤ 62) : 0 ≤ fullI n ∧ fullI n < 4611686018427387904 := by
  have := pow_le62 h0 h1
  unfold fullI; omega
theorem full_wI {n : Int} (h0 : 0 ≤ n) (h1 : n ≤ 62) : wI (shlI 1 n - 1) = fullI n := by
  have := pow_le62 h0 h1
  rw [shlI_one h0 h1]
  exact wI_in ⟨by omega, by omega⟩
/-- Does the mask have the member? -/
theorem bit_eq {m i : Int} (hm : 0 ≤ m) (hm1 : m < 9223372036854775808) (h0 : 0 ≤ i) (h1 : i ≤ 64) : decide (andI (shrI m i) 1 = 1) = m.toNat.testBit i.toNat := by
  have hs : 0 ≤ m.toNat / 2 ^ i.toNat ∧ m.toNat / 2 ^ i.toNat ≤ m.toNat := ⟨Nat.zero_le _, Nat.div_le_self _ _⟩
  rw [shrI_nat hm h0 h1, andI_nat (by omega) (by omega) (by decide) (by decide), Nat.testBit_eq_decide_div_mod_eq]
  simp only [Int.toNat_natCast, Int.toNat_one, Nat.and_one_is_mod]
  rw [Bool.eq_iff_iff, decide_eq_true_eq, decide_eq_true_eq]
  constructor <;> intro h <;> omega
theorem fullI_pow (n : Int) : fullI n = powI n - 1 := rfl
theorem fullI5 {n : Int} (h0 : 0 ≤ n) (h1 : n ≤ 5) : 0 ≤ fullI n ∧ fullI n ≤ 31 := by
  have h : n = 0 ∨ n = 1 ∨ n = 2 ∨ n = 3 ∨ n = 4 ∨ n = 5 := by omega
  rcases h with rfl | rfl | rfl | rfl | rfl | rfl <;> decide
end Go.Proofs.YtkilkfhjfobcdaaDoor
