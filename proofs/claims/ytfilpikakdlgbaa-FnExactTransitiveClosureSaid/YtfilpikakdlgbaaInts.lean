/- Ints: contracts of the small functions on numbers and on slices of int64. -/
import Derived.Test.YtfilpikakdlgbaaBase
namespace Go.Proofs.Ytfilpikakdlgbaa
open Go.RowKit

/-- Is the number in the range? -/
def inB (n lo hi : Int) : Bool := decide (lo ≤ n ∧ n ≤ hi)
theorem inB_iff {n lo hi : Int} : inB n lo hi = true ↔ lo ≤ n ∧ n ≤ hi := by simp [inB]
theorem inB_not {n lo hi : Int} : inB n lo hi = false ↔ ¬ (lo ≤ n ∧ n ≤ hi) := by rw [← inB_iff]; simp
theorem l01In_c (n lo hi : Int) (w : World) : Calls Try.prog 57 #[.int .i64 n, .int .i64 lo, .int .i64 hi] w fun e w' => e = .returned (.bool (inB n lo hi)) ∧ w = w' := by
  by_cases h1 : lo ≤ n <;> by_cases h2 : n ≤ hi
  all_goals
    go_enter Try.func57, Try.ntmps57
    go_wp2
    go_ret
    simp [h1, h2, inB]
theorem inRange_c (n lo hi : Int) (w : World) : Calls Try.prog 61 #[.int .i64 n, .int .i64 lo, .int .i64 hi] w fun e w' => e = .returned (.bool (inB n lo hi)) ∧ w = w' := by
  by_cases h1 : lo ≤ n <;> by_cases h2 : n ≤ hi
  all_goals
    go_enter Try.func61, Try.ntmps61
    go_wp2
    go_ret
    simp [h1, h2, inB]

/-- Is element k in the mask? -/
def bitB (m k : Int) : Bool := bits .and .i64 (m / 2 ^ k.toNat) 1 == 1
def one63 (i : Int) : Int := wrap64 (2 ^ i.toNat)
def full (n : Int) : Int := wrap64 (one63 n - 1)
theorem one63_eq {i : Int} (h : i < 63) : one63 i = 2 ^ i.toNat := by
  unfold one63
  have h2 : (2 : Int) ^ i.toNat ≤ 2 ^ 62 := by
    have : i.toNat ≤ 62 := by omega
    exact_mod_cast Nat.pow_le_pow_right (by omega) this
  have h3 : (0 : Int) < 2 ^ i.toNat := Int.pow_pos (by omega)
  exact IntWalk.wrap64_in _ ⟨by omega, by omega⟩

theorem l01One_c (i : Int) (w : World) (h0 : 0 ≤ i) (h1 : i < 64) : Calls Try.prog 115 #[.int .i64 i] w fun e w' => e = .returned (.int .i64 (one63 i)) ∧ w = w' := by
  go_enter Try.func115, Try.ntmps115
  go_wp2
  go_ret
  exact ⟨rfl, rfl⟩
theorem l01Full_c (i : Int) (w : World) (h0 : 0 ≤ i) (h1 : i < 64) : Calls Try.prog 85 #[.int .i64 i] w fun e w' => e = .returned (.int .i64 (full i)) ∧ w = w' := by
  go_enter Try.func85, Try.ntmps85
  go_wp2_with (go_at_call 115; refine (l01One_c _ _ (by omega) (by omega)).mono ?_; rintro e w' ⟨rfl, rfl⟩)
  go_ret
  exact ⟨rfl, rfl⟩
theorem l01Bit_c (m i : Int) (w : World) (h0 : 0 ≤ i) (h1 : i < 64) : Calls Try.prog 86 #[.int .i64 m, .int .i64 i] w fun e w' => e = .returned (.bool (bitB m i)) ∧ w = w' := by
  go_enter Try.func86, Try.ntmps86
  go_wp2
  go_ret
  exact ⟨rfl, rfl⟩
theorem has_c (m i : Int) (w : World) (h0 : 0 ≤ i) (h1 : i < 64) : Calls Try.prog 113 #[.int .i64 m, .int .i64 i] w fun e w' => e = .returned (.bool (bitB m i)) ∧ w = w' := by
  go_enter Try.func113, Try.ntmps113
  go_wp2
  go_ret
  exact ⟨rfl, rfl⟩
def isMaskB (n m : Int) : Bool := inB n 0 30 && inB m 0 (full n)
theorem isMask_c (n m : Int) (w : World) : Calls Try.prog 96 #[.int .i64 n, .int .i64 m] w fun e w' => e = .returned (.bool (isMaskB n m)) ∧ w = w' := by
  cases h : inB n 0 30
  · have HF : Hid (isMaskB n m = false) := by simp [Hid, isMaskB, h]
    go_enter Try.func96, Try.ntmps96
    go_wp2_with (go_at_call 61; refine (inRange_c _ _ _ _).mono ?_; rintro e w' ⟨rfl, rfl⟩)
    go_ret
    exact ⟨ret_bool (by rw [HF.out]), rfl⟩
  · obtain ⟨h0, h1⟩ := inB_iff.1 h
    have HF : Hid (isMaskB n m = inB m 0 (full n)) := by simp [Hid, isMaskB, h]
    go_enter Try.func96, Try.ntmps96
    go_wp2_with (go_at_call 61; refine (inRange_c _ _ _ _).mono ?_; rintro e w' ⟨rfl, rfl⟩)
    go_ret
    exact ⟨ret_bool (by rw [HF.out]; rfl), rfl⟩
theorem sizeI_c (a : Option Addr) (n c : Nat) (w : World) : Calls Try.prog 116 #[.slice a n c] w fun e w' => e = .returned (.int .i64 (n : Int)) ∧ w = w' := by
  go_enter Try.func116, Try.ntmps116
  go_wp2
  go_ret
  exact ⟨rfl, rfl⟩
/-- Are all numbers of the list masks of n elements? -/
def masksB (n : Int) (xs : List Int) : Bool := xs.all fun x => inB x 0 (full n)
theorem masksB_take {n : Int} {xs : List Int} {k : Nat} (hk : k < xs.length) : masksB n (xs.take (k + 1)) = (masksB n (xs.take k) && inB (gi xs k) 0 (full n)) := by
  rw [take_gi hk]; simp [masksB]
theorem masksB_false {n : Int} {xs : List Int} {k : Nat} (hk : k < xs.length) (h : inB (gi xs k) 0 (full n) = false) : masksB n xs = false := by
  rw [masksB, List.all_eq_false]
  exact ⟨xs[k], List.getElem_mem hk, by rw [gi_get hk] at h; simp [h]⟩
theorem l01Masks_c (n : Int) (a : Option Addr) (c : Nat) (xs : List Int) (w : World) (h0 : 0 ≤ n) (h1 : n < 64) (hl : xs.length ≤ 1048576) (hr : Rd w a xs) :
    Calls Try.prog 73 #[.int .i64 n, .slice a xs.length c] w fun e w' => e = .returned (.bool (masksB n xs)) ∧ Ext w w' := by
  have Hr := Lib.hid hr; clear hr
  go_enter Try.func73, Try.ntmps73
  go_wp2
  go_loopw [5] (fun i wr => ∃ k : Nat, k ≤ xs.length ∧ i = .int .i64 k ∧ masksB n (xs.take k) = true ∧ Ext w wr) (fun i _ => xs.length - (intOf i).toNat)
  case atStart => exact ⟨0, Nat.zero_le _, rfl, rfl, Ext.refl _⟩
  case round =>
    obtain ⟨k, hk, rfl, hm, he⟩ := hrel
    have Hm := Lib.hid hm; clear hm
    have He := Lib.hid he; clear he
    by_cases hlt : k < xs.length
    · obtain ⟨hs, hcell⟩ := (Hr.out.ext He.out) k hlt
      have hidx := fun w => idxI (a := a) (n := xs.length) (c := c) (k := k) hs hlt w
      cases hb : inB (gi xs k) 0 (full n)
      · go_wp2
        go_quiet (first | (go_at_call 85; exact Calls.quiet_of_same ((l01Full_c _ _ (by omega) (by omega)).mono fun _ _ h => ⟨h.1, h.2.symm⟩)) | (go_at_call 57; exact Calls.quiet_of_same ((l01In_c _ _ _ _).mono fun _ _ h => ⟨h.1, h.2.symm⟩)))
        go_wp2
        go_ret
        exact ⟨ret_bool (by rw [masksB_false hlt hb]), He.out.drewN _⟩
      · go_wp2
        go_quiet (first | (go_at_call 85; exact Calls.quiet_of_same ((l01Full_c _ _ (by omega) (by omega)).mono fun _ _ h => ⟨h.1, h.2.symm⟩)) | (go_at_call 57; exact Calls.quiet_of_same ((l01In_c _ _ _ _).mono fun _ _ h => ⟨h.1, h.2.symm⟩)))
        go_wp2
        go_roundw
        case rel => exact ⟨k + 1, by omega, by go_num, by rw [masksB_take hlt, Hm.out, hb]; rfl, He.out.drewN _⟩
        case measure => simp [intOf]; omega
    · go_wp2
      go_ret
      have e1 : xs.take k = xs := List.take_of_length_le (by omega)
      exact ⟨ret_bool (by rw [← Hm.out, e1]), He.out⟩
end Go.Proofs.Ytfilpikakdlgbaa
