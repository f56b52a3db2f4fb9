/- GFGS: models and contracts, printed by wip/gen/gen.py -/
import Derived.Test.YtlbonhloeefnmaaKCXGFG
set_option linter.unusedVariables false
set_option linter.unusedSimpArgs false
namespace Go.Proofs.Ytlbonhloeefnmaa
open Go.RowKit
def F_l05Flag_L3b (f0 : Int) (f1 : List Int) (flag : Int) (x7 : Int) (y8L2 : Int) (rec : Int → Except (Bool) (Int)) (z9L3 : Int) : Except (Bool) (Int) :=
  bif (decide (z9L3 < f0)) then (bif (!(F_l01Bit (gI f1 x7) z9L3)) then (rec (z9L3 + 1)) else (bif (bif (decide (flag = 5)) then ((decide ((andI (gI f1 y8L2) (gI f1 z9L3)) = 0)) || ((decide (flag = 6)) && ((!(F_l01Bit (gI f1 y8L2) z9L3)) && (!(F_l01Bit (gI f1 z9L3) y8L2))))) else ((decide (flag = 6)) && ((!(F_l01Bit (gI f1 y8L2) z9L3)) && (!(F_l01Bit (gI f1 z9L3) y8L2))))) then (.error false) else (rec (z9L3 + 1)))) else (.ok z9L3)
def F_l05Flag_L3 (f0 : Int) (f1 : List Int) (flag : Int) (x7 : Int) (y8L2 : Int) : Nat → Int → Except (Bool) (Int)
  | 0, z9L3 => .ok z9L3
  | r + 1, z9L3 => F_l05Flag_L3b f0 f1 flag x7 y8L2 (F_l05Flag_L3 f0 f1 flag x7 y8L2 r) z9L3
def F_l05Flag_L2b (f0 : Int) (f1 : List Int) (flag : Int) (x7 : Int) (rec : Int → Except (Bool) (Int)) (y8L2 : Int) : Except (Bool) (Int) :=
  bif (decide (y8L2 < f0)) then (bif (!(F_l01Bit (gI f1 x7) y8L2)) then (rec (y8L2 + 1)) else (bif (bif (decide (flag = 3)) then (!(F_l01Bit (gI f1 y8L2) x7)) else (bif (decide (flag = 4)) then (!decide ((anI (gI f1 x7) (gI f1 y8L2)) = 0)) else (bif (decide (flag = 8)) then ((!decide (x7 = y8L2)) && (F_l01Bit (gI f1 y8L2) x7)) else ((decide (flag = 9)) && (decide ((andI (gI f1 x7) (gI (F_l01Inverse f1) y8L2)) = 0)))))) then (.error false) else (bif (isOk (F_l05Flag_L3 f0 f1 flag x7 y8L2 (Int.toNat (f0 - 0) + 1) 0)) then (rec (y8L2 + 1)) else (.error (errD (F_l05Flag_L3 f0 f1 flag x7 y8L2 (Int.toNat (f0 - 0) + 1) 0)))))) else (.ok y8L2)
def F_l05Flag_L2 (f0 : Int) (f1 : List Int) (flag : Int) (x7 : Int) : Nat → Int → Except (Bool) (Int)
  | 0, y8L2 => .ok y8L2
  | r + 1, y8L2 => F_l05Flag_L2b f0 f1 flag x7 (F_l05Flag_L2 f0 f1 flag x7 r) y8L2
def F_l05Flag_L1b (f0 : Int) (f1 : List Int) (flag : Int) (rec : Int → Except (Bool) (Int)) (x7 : Int) : Except (Bool) (Int) :=
  bif (decide (x7 < f0)) then (bif (bif (decide (flag = 0)) then (!(F_l01Bit (gI f1 x7) x7)) else (bif (decide (flag = 1)) then (decide ((gI f1 x7) = 0)) else (bif (decide (flag = 2)) then (!decide ((anI (F_l01Image f1 (gI f1 x7)) (gI f1 x7)) = 0)) else (bif (decide (flag = 7)) then (F_l01Bit (gI (F_l01Closure f1) x7) x7) else ((decide (flag = 10)) && (decide (1 < (F_l01Bits (gI f1 x7))))))))) then (.error false) else (bif (isOk (F_l05Flag_L2 f0 f1 flag x7 (Int.toNat (f0 - 0) + 1) 0)) then (rec (x7 + 1)) else (.error (errD (F_l05Flag_L2 f0 f1 flag x7 (Int.toNat (f0 - 0) + 1) 0))))) else (.ok x7)
def F_l05Flag_L1 (f0 : Int) (f1 : List Int) (flag : Int) : Nat → Int → Except (Bool) (Int)
  | 0, x7 => .ok x7
  | r + 1, x7 => F_l05Flag_L1b f0 f1 flag (F_l05Flag_L1 f0 f1 flag r) x7
def F_l05Flag (f0 : Int) (f1 : List Int) (flag : Int) : Bool :=
  bif (isOk (F_l05Flag_L1 f0 f1 flag (Int.toNat (f0 - 0) + 1) 0)) then true else (errD (F_l05Flag_L1 f0 f1 flag (Int.toNat (f0 - 0) + 1) 0))
def fc1 (f1 : List Int) (flag x : Int) : Bool := (bif (decide (flag = 0)) then (!(F_l01Bit (gI f1 x) x)) else (bif (decide (flag = 1)) then (decide ((gI f1 x) = 0)) else (bif (decide (flag = 2)) then (!decide ((anI (F_l01Image f1 (gI f1 x)) (gI f1 x)) = 0)) else (bif (decide (flag = 7)) then (F_l01Bit (gI (F_l01Closure f1) x) x) else ((decide (flag = 10)) && (decide (1 < (F_l01Bits (gI f1 x)))))))))
def fc2 (f1 : List Int) (flag x y : Int) : Bool := (bif (decide (flag = 3)) then (!(F_l01Bit (gI f1 y) x)) else (bif (decide (flag = 4)) then (!decide ((anI (gI f1 x) (gI f1 y)) = 0)) else (bif (decide (flag = 8)) then ((!decide (x = y)) && (F_l01Bit (gI f1 y) x)) else ((decide (flag = 9)) && (decide ((andI (gI f1 x) (gI (F_l01Inverse f1) y)) = 0))))))
def fc3 (f1 : List Int) (flag y z : Int) : Bool := (bif (decide (flag = 5)) then ((decide ((andI (gI f1 y) (gI f1 z)) = 0)) || ((decide (flag = 6)) && ((!(F_l01Bit (gI f1 y) z)) && (!(F_l01Bit (gI f1 z) y))))) else ((decide (flag = 6)) && ((!(F_l01Bit (gI f1 y) z)) && (!(F_l01Bit (gI f1 z) y)))))
theorem l05Flag_form {f0 : Int} {f1 : List Int} (h0 : 0 ≤ f0) (flag : Int) : F_l05Flag f0 f1 flag = (List.range f0.toNat).all fun (x : Nat) => !(fc1 f1 flag (x : Int) || !(List.range f0.toNat).all fun (y : Nat) => !(F_l01Bit (gI f1 (x : Int)) (y : Int) && (fc2 f1 flag (x : Int) (y : Int) || !(List.range f0.toNat).all fun (z : Nat) => !(F_l01Bit (gI f1 (x : Int)) (z : Int) && fc3 f1 flag (y : Int) (z : Int))))) := by
  unfold F_l05Flag
  have l3 : ∀ x y : Int, F_l05Flag_L3 f0 f1 flag x y (Int.toNat (f0 - 0) + 1) 0 = bif (List.range f0.toNat).all (fun (z : Nat) => !(F_l01Bit (gI f1 x) (z : Int) && fc3 f1 flag y (z : Int))) then .ok f0 else .error false := fun x y =>
    allE (F_l05Flag_L3 f0 f1 flag x y) false f0 (fun z => F_l01Bit (gI f1 x) z && fc3 f1 flag y z) h0 (fun r i _ _ => by
      show F_l05Flag_L3b f0 f1 flag x y _ i = _
      unfold F_l05Flag_L3b fc3
      cases F_l01Bit (gI f1 x) i
      · rfl
      · rw [Bool.true_and, Bool.not_true, cond_false])
  have l2 : ∀ x : Int, F_l05Flag_L2 f0 f1 flag x (Int.toNat (f0 - 0) + 1) 0 = bif (List.range f0.toNat).all (fun (y : Nat) => !(F_l01Bit (gI f1 x) (y : Int) && (fc2 f1 flag x (y : Int) || !(List.range f0.toNat).all fun (z : Nat) => !(F_l01Bit (gI f1 x) (z : Int) && fc3 f1 flag (y : Int) (z : Int))))) then .ok f0 else .error false := fun x =>
    allE (F_l05Flag_L2 f0 f1 flag x) false f0 (fun y => F_l01Bit (gI f1 x) y && (fc2 f1 flag x y || !(List.range f0.toNat).all fun (z : Nat) => !(F_l01Bit (gI f1 x) (z : Int) && fc3 f1 flag y (z : Int)))) h0 (fun r i _ _ => by
      show F_l05Flag_L2b f0 f1 flag x _ i = _
      unfold F_l05Flag_L2b
      rw [l3 x i, isOk_bif]
      change (bif decide (i < f0) then (bif !(F_l01Bit (gI f1 x) i) then _ else (bif fc2 f1 flag x i then _ else _)) else _) = _
      cases F_l01Bit (gI f1 x) i
      · rfl
      · rw [Bool.true_and, Bool.not_true, cond_false]
        cases fc2 f1 flag x i
        · rw [Bool.false_or, cond_false]
          cases (List.range f0.toNat).all (fun (z : Nat) => !(F_l01Bit (gI f1 x) (z : Int) && fc3 f1 flag i (z : Int))) <;> rfl
        · rfl)
  rw [allE (F_l05Flag_L1 f0 f1 flag) false f0 (fun x => fc1 f1 flag x || !(List.range f0.toNat).all (fun (y : Nat) => !(F_l01Bit (gI f1 x) (y : Int) && (fc2 f1 flag x (y : Int) || !(List.range f0.toNat).all fun (z : Nat) => !(F_l01Bit (gI f1 x) (z : Int) && fc3 f1 flag (y : Int) (z : Int)))))) h0 (fun r i _ _ => by
      show F_l05Flag_L1b f0 f1 flag _ i = _
      unfold F_l05Flag_L1b
      rw [l2 i, isOk_bif]
      change (bif decide (i < f0) then (bif fc1 f1 flag i then _ else _) else _) = _
      cases fc1 f1 flag i
      · rw [Bool.false_or, cond_false]
        cases (List.range f0.toNat).all (fun (y : Nat) => !(F_l01Bit (gI f1 i) (y : Int) && (fc2 f1 flag i (y : Int) || !(List.range f0.toNat).all fun (z : Nat) => !(F_l01Bit (gI f1 i) (z : Int) && fc3 f1 flag (y : Int) (z : Int))))) <;> rfl
      · rfl), isOk_bif, errD_bif, bif_tf]
theorem l05Flag_iff {n : Nat} (hn : n ≤ 8) {f0 : Int} {f1 : List Int} (h0 : f0 = (n : Int)) (hR : Rl n f1) (flag : Int) : F_l05Flag f0 f1 flag = true ↔ ∀ x : Nat, x < n → fc1 f1 flag (x : Int) = false ∧ ∀ y : Nat, y < n → rb f1 x y = true → fc2 f1 flag (x : Int) (y : Int) = false ∧ ∀ z : Nat, z < n → rb f1 x z = true → fc3 f1 flag (y : Int) (z : Int) = false := by
  subst h0
  rw [l05Flag_form (by omega), Int.toNat_natCast, List.all_eq_true]
  have hb : ∀ x y : Nat, x < n → y < n → F_l01Bit (gI f1 (x : Int)) (y : Int) = rb f1 x y := fun x y hx hy => tb_has (n := n) (by omega) (hR.2 x hx) (by omega)
  constructor
  · intro h x hx
    have h1 := h x (List.mem_range.2 hx)
    rw [Bool.not_eq_true', Bool.or_eq_false_iff, Bool.not_eq_false', List.all_eq_true] at h1
    refine ⟨h1.1, fun y hy hxy => ?_⟩
    have h2 := h1.2 y (List.mem_range.2 hy)
    rw [hb x y hx hy, hxy, Bool.true_and, Bool.not_eq_true', Bool.or_eq_false_iff, Bool.not_eq_false', List.all_eq_true] at h2
    refine ⟨h2.1, fun z hz hxz => ?_⟩
    have h3 := h2.2 z (List.mem_range.2 hz)
    rwa [hb x z hx hz, hxz, Bool.true_and, Bool.not_eq_true'] at h3
  · intro h x hx
    have hx := List.mem_range.1 hx
    obtain ⟨h1, h2⟩ := h x hx
    rw [Bool.not_eq_true', Bool.or_eq_false_iff, Bool.not_eq_false', List.all_eq_true]
    refine ⟨h1, fun y hy => ?_⟩
    have hy := List.mem_range.1 hy
    rw [hb x y hx hy]
    cases hxy : rb f1 x y
    · rfl
    · obtain ⟨h3, h4⟩ := h2 y hy hxy
      rw [Bool.true_and, Bool.not_eq_true', Bool.or_eq_false_iff, Bool.not_eq_false', List.all_eq_true]
      refine ⟨h3, fun z hz => ?_⟩
      have hz := List.mem_range.1 hz
      rw [hb x z hx hz]
      cases hxz : rb f1 x z
      · rfl
      · rw [Bool.true_and, Bool.not_eq_true']; exact h4 z hz hxz
theorem bits_all : ((List.range 256).all fun (u : Nat) => decide (F_l01Bits (u : Int) = F_countMembers (u : Int))) = true := by decide +kernel
theorem l01Bits_eq {u : Int} (h0 : 0 ≤ u) (h1 : u ≤ 255) : F_l01Bits u = F_countMembers u := by
  have := List.all_eq_true.1 bits_all u.toNat (List.mem_range.2 (by omega))
  rw [show ((u.toNat : Nat) : Int) = u by omega] at this
  exact of_decide_eq_true this
theorem everyPair_iff {n : Nat} (hn : n ≤ 8) {f0 : Int} {f1 : List Int} (hR : Rl n f1) (holds : Int → Int → Int → Bool) : F_Frame_everyPair f0 f1 holds = true ↔ ∀ x y z : Nat, x < n → y < n → z < n → rb f1 x y = true → rb f1 x z = true → holds (x : Int) (y : Int) (z : Int) = true := by
  rw [everyPair_eq hn hR, List.all_eq_true]
  constructor
  · intro h x y z hx hy hz hxy hxz
    have h1 := h x (List.mem_range.2 hx)
    rw [List.all_eq_true] at h1
    have h2 := h1 y (List.mem_range.2 hy)
    unfold rb at hxy hxz
    rw [hxy, Bool.not_true, Bool.false_or, List.all_eq_true] at h2
    have h3 := h2 z (List.mem_range.2 hz)
    rwa [hxz, Bool.not_true, Bool.false_or] at h3
  · intro h x hx
    have hx := List.mem_range.1 hx
    rw [List.all_eq_true]
    intro y hy
    have hy := List.mem_range.1 hy
    cases hxy : tb (gI f1 (x : Int)) y
    · rfl
    · rw [Bool.not_true, Bool.false_or, List.all_eq_true]
      intro z hz
      have hz := List.mem_range.1 hz
      cases hxz : tb (gI f1 (x : Int)) z
      · rfl
      · rw [Bool.not_true, Bool.false_or]; exact h x y z hx hy hz hxy hxz
theorem everyWorld_iff {n : Nat} {f0 : Int} {f1 : List Int} (h0 : f0 = (n : Int)) (holds : Int → Bool) : F_Frame_everyWorld f0 f1 holds = true ↔ ∀ x : Nat, x < n → holds (x : Int) = true := by
  subst h0
  rw [everyWorld_eq (by omega), Int.toNat_natCast, List.all_eq_true]
  exact ⟨fun h x hx => h x (List.mem_range.2 hx), fun h x hx => h x (List.mem_range.1 hx)⟩
theorem flag_iff1 {n : Nat} (hn : n ≤ 8) {f0 : Int} {f1 : List Int} (h0 : f0 = (n : Int)) (hR : Rl n f1) {flag : Int} (h2 : ∀ x y, fc2 f1 flag x y = false) (h3 : ∀ y z, fc3 f1 flag y z = false) : F_l05Flag f0 f1 flag = true ↔ ∀ x : Nat, x < n → fc1 f1 flag (x : Int) = false :=
  (l05Flag_iff hn h0 hR flag).trans ⟨fun h x hx => (h x hx).1, fun h x hx => ⟨h x hx, fun _ _ _ => ⟨h2 _ _, fun _ _ _ => h3 _ _⟩⟩⟩
theorem flag_iff2 {n : Nat} (hn : n ≤ 8) {f0 : Int} {f1 : List Int} (h0 : f0 = (n : Int)) (hR : Rl n f1) {flag : Int} (h1 : ∀ x, fc1 f1 flag x = false) (h3 : ∀ y z, fc3 f1 flag y z = false) : F_l05Flag f0 f1 flag = true ↔ ∀ x y : Nat, x < n → y < n → rb f1 x y = true → fc2 f1 flag (x : Int) (y : Int) = false :=
  (l05Flag_iff hn h0 hR flag).trans ⟨fun h x y hx hy hxy => ((h x hx).2 y hy hxy).1, fun h x hx => ⟨h1 _, fun y hy hxy => ⟨h x y hx hy hxy, fun _ _ _ => h3 _ _⟩⟩⟩
theorem flag_iff3 {n : Nat} (hn : n ≤ 8) {f0 : Int} {f1 : List Int} (h0 : f0 = (n : Int)) (hR : Rl n f1) {flag : Int} (h1 : ∀ x, fc1 f1 flag x = false) (h2 : ∀ x y, fc2 f1 flag x y = false) : F_l05Flag f0 f1 flag = true ↔ ∀ x y z : Nat, x < n → y < n → z < n → rb f1 x y = true → rb f1 x z = true → fc3 f1 flag (y : Int) (z : Int) = false :=
  (l05Flag_iff hn h0 hR flag).trans ⟨fun h x y z hx hy hz hxy hxz => ((h x hx).2 y hy hxy).2 z hz hxz, fun h x hx => ⟨h1 _, fun y hy hxy => ⟨h2 _ _, fun z hz hxz => h x y z hx hy hz hxy hxz⟩⟩⟩
section
variable {n : Nat} (hn : n ≤ 8) {f0 : Int} {f1 : List Int} (h0 : f0 = (n : Int)) (hR : Rl n f1)
include hn h0 hR
theorem flag0 : F_Frame_hasFlag f0 f1 0 = F_l05Flag f0 f1 0 := by
  rw [Bool.eq_iff_iff, flag_iff1 hn h0 hR (fun _ _ => rfl) (fun _ _ => rfl), show F_Frame_hasFlag f0 f1 0 = F_Frame_everyWorld f0 f1 (fun x0 => F_Frame_hasFlag_k1 x0 f0 f1) from rfl, everyWorld_iff h0]
  refine forall_congr' fun x => forall_congr' fun hx => ?_
  rw [show fc1 f1 0 (x : Int) = !(F_has (gI f1 (x : Int)) (x : Int)) from rfl, Bool.not_eq_false']
  exact Iff.rfl
theorem flag1 : F_Frame_hasFlag f0 f1 1 = F_l05Flag f0 f1 1 := by
  rw [Bool.eq_iff_iff, flag_iff1 hn h0 hR (fun _ _ => rfl) (fun _ _ => rfl), show F_Frame_hasFlag f0 f1 1 = F_Frame_everyWorld f0 f1 (fun x0 => F_Frame_hasFlag_k2 x0 f0 f1) from rfl, everyWorld_iff h0]
  refine forall_congr' fun x => forall_congr' fun hx => ?_
  rw [show fc1 f1 1 (x : Int) = decide (gI f1 (x : Int) = 0) from rfl]
  show (!decide (gI f1 (x : Int) = 0)) = true ↔ _
  rw [Bool.not_eq_true']
theorem flag2 : F_Frame_hasFlag f0 f1 2 = F_l05Flag f0 f1 2 := by
  rw [Bool.eq_iff_iff, flag_iff1 hn h0 hR (fun _ _ => rfl) (fun _ _ => rfl), show F_Frame_hasFlag f0 f1 2 = F_z_Equal (F_transitive f1) f1 from rfl, z_Equal_eq, decide_eq_true_iff]
  have T := transitive_tc (n := n) (by omega) hR
  have him : ∀ x : Nat, x < n → (fc1 f1 2 (x : Int) = false ↔ ∀ i j, rb f1 x i = true → rb f1 i j = true → rb f1 x j = true) := fun x hx => by
    have hm := hR.2 x hx
    obtain ⟨i1, i2⟩ := l01Image_bits (n := n) (by omega) hR hm
    rw [show fc1 f1 2 (x : Int) = !decide (anI (F_l01Image f1 (gI f1 (x : Int))) (gI f1 (x : Int)) = 0) from rfl, Bool.not_eq_false', decide_eq_true_iff, Mk.anz (by omega) i1 hm]
    exact ⟨fun h i j hi hj => h j ((i2 j).2 ⟨i, hi, hj⟩), fun h j hj => by obtain ⟨i, hi, hij⟩ := (i2 j).1 hj; exact h i j hi hij⟩
  constructor
  · intro e x hx
    rw [him x hx]
    intro i j hi hj
    rw [e] at T
    exact T.tra x i j hx hi hj
  · intro h
    refine rl_ext T.rel hR fun i j hi => ?_
    rw [Bool.eq_iff_iff]
    refine ⟨fun hij => (transitive_least (n := n) (by omega) hR (fun i j => i < n ∧ rb f1 i j = true) (fun i k j h1 h2 => ⟨h1.1, (him i h1.1).1 (h i h1.1) k j h1.2 h2.2⟩) (fun i j hi hij => ⟨hi, hij⟩) i j hi hij).2, T.sup i j hi⟩
theorem flag3 : F_Frame_hasFlag f0 f1 3 = F_l05Flag f0 f1 3 := by
  rw [Bool.eq_iff_iff, flag_iff2 hn h0 hR (fun _ => rfl) (fun _ _ => rfl), show F_Frame_hasFlag f0 f1 3 = F_z_Equal (F_inverse f1) f1 from rfl, z_Equal_eq, decide_eq_true_iff]
  obtain ⟨v1, v2⟩ := inverse_bits (Nat.le_trans hn (by decide)) hR
  have hb : ∀ x y : Nat, x < n → y < n → (fc2 f1 3 (x : Int) (y : Int) = false ↔ rb f1 y x = true) := fun x y hx hy => by
    rw [show fc2 f1 3 (x : Int) (y : Int) = !(F_has (gI f1 (y : Int)) (x : Int)) from rfl, tb_has (n := n) (by omega) (hR.2 y hy) (by omega), Bool.not_eq_false']
    exact Iff.rfl
  constructor
  · intro e x y hx hy hxy
    rw [hb x y hx hy]
    have := v2 y x hy
    rw [e, decide_eq_true hx, Bool.true_and] at this
    rw [this]; exact hxy
  · intro h
    refine rl_ext v1 hR fun i j hi => ?_
    rw [v2 i j hi, Bool.eq_iff_iff, Bool.and_eq_true, decide_eq_true_iff]
    exact ⟨fun ⟨hj, hji⟩ => (hb j i hj hi).1 (h j i hj hi hji), fun hij => ⟨tb_lt (hR.2 i hi) hij, (hb i j hi (tb_lt (hR.2 i hi) hij)).1 (h i j hi (tb_lt (hR.2 i hi) hij) hij)⟩⟩
theorem flag4 : F_Frame_hasFlag f0 f1 4 = F_l05Flag f0 f1 4 := by
  rw [Bool.eq_iff_iff, flag_iff2 hn h0 hR (fun _ => rfl) (fun _ _ => rfl), show F_Frame_hasFlag f0 f1 4 = F_Frame_everyPair f0 f1 (fun x0 x1 x2 => F_Frame_hasFlag_k3 x0 x1 x2 f0 f1) from rfl, everyPair_iff hn hR]
  have hs : ∀ y z : Nat, y < n → z < n → F_has (gI f1 (y : Int)) (z : Int) = rb f1 y z := fun y z hy hz => tb_has (n := n) (by omega) (hR.2 y hy) (by omega)
  have hb : ∀ x y : Nat, x < n → y < n → (fc2 f1 4 (x : Int) (y : Int) = false ↔ ∀ z, rb f1 x z = true → rb f1 y z = true) := fun x y hx hy => by
    rw [show fc2 f1 4 (x : Int) (y : Int) = !decide (anI (gI f1 (x : Int)) (gI f1 (y : Int)) = 0) from rfl, Bool.not_eq_false', decide_eq_true_iff, Mk.anz (n := n) (by omega) (hR.2 x hx) (hR.2 y hy)]
    exact Iff.rfl
  constructor
  · intro h x y hx hy hxy
    rw [hb x y hx hy]
    intro z hxz
    have hz := tb_lt (hR.2 x hx) hxz
    have := h x y z hx hy hz hxy hxz
    rw [← hs y z hy hz]; exact this
  · intro h x y z hx hy hz hxy hxz
    show F_has (gI f1 (y : Int)) (z : Int) = true
    rw [hs y z hy hz]
    exact (hb x y hx hy).1 (h x y hx hy hxy) z hxz
theorem flag5 : F_Frame_hasFlag f0 f1 5 = F_l05Flag f0 f1 5 := by
  rw [Bool.eq_iff_iff, flag_iff3 hn h0 hR (fun _ => rfl) (fun _ _ => rfl), show F_Frame_hasFlag f0 f1 5 = F_Frame_everyPair f0 f1 (fun x0 x1 x2 => F_Frame_hasFlag_k4 x0 x1 x2 f0 f1) from rfl, everyPair_iff hn hR]
  refine forall_congr' fun x => forall_congr' fun y => forall_congr' fun z => forall_congr' fun hx => forall_congr' fun hy => forall_congr' fun hz => forall_congr' fun hxy => forall_congr' fun hxz => ?_
  rw [show fc3 f1 5 (y : Int) (z : Int) = (decide (andI (gI f1 (y : Int)) (gI f1 (z : Int)) = 0) || false) from rfl, Bool.or_false]
  show (!decide (andI (gI f1 (y : Int)) (gI f1 (z : Int)) = 0)) = true ↔ _
  rw [Bool.not_eq_true']
theorem flag6 : F_Frame_hasFlag f0 f1 6 = F_l05Flag f0 f1 6 := by
  rw [Bool.eq_iff_iff, flag_iff3 hn h0 hR (fun _ => rfl) (fun _ _ => rfl), show F_Frame_hasFlag f0 f1 6 = F_Frame_everyPair f0 f1 (fun x0 x1 x2 => F_Frame_hasFlag_k5 x0 x1 x2 f0 f1) from rfl, everyPair_iff hn hR]
  refine forall_congr' fun x => forall_congr' fun y => forall_congr' fun z => forall_congr' fun hx => forall_congr' fun hy => forall_congr' fun hz => forall_congr' fun hxy => forall_congr' fun hxz => ?_
  rw [show fc3 f1 6 (y : Int) (z : Int) = ((!(F_has (gI f1 (y : Int)) (z : Int))) && (!(F_has (gI f1 (z : Int)) (y : Int)))) from rfl]
  show (F_has (gI f1 (y : Int)) (z : Int) || F_has (gI f1 (z : Int)) (y : Int)) = true ↔ _
  cases F_has (gI f1 (y : Int)) (z : Int) <;> cases F_has (gI f1 (z : Int)) (y : Int) <;> simp
theorem flag7 : F_Frame_hasFlag f0 f1 7 = F_l05Flag f0 f1 7 := by
  rw [Bool.eq_iff_iff, flag_iff1 hn h0 hR (fun _ _ => rfl) (fun _ _ => rfl), show F_Frame_hasFlag f0 f1 7 = F_Frame_everyWorld f0 f1 (fun x0 => F_Frame_hasFlag_k6 x0 (F_transitive f1)) from rfl, everyWorld_iff h0]
  refine forall_congr' fun x => forall_congr' fun hx => ?_
  rw [show fc1 f1 7 (x : Int) = F_has (gI (F_l01Closure f1) (x : Int)) (x : Int) from rfl, l01Closure_eq]
  show (!(F_has (gI (F_transitive f1) (x : Int)) (x : Int))) = true ↔ _
  rw [Bool.not_eq_true']
theorem flag8 : F_Frame_hasFlag f0 f1 8 = F_l05Flag f0 f1 8 := by
  rw [Bool.eq_iff_iff, flag_iff2 hn h0 hR (fun _ => rfl) (fun _ _ => rfl), show F_Frame_hasFlag f0 f1 8 = F_Frame_everyWorld f0 f1 (fun x0 => F_Frame_hasFlag_k7 x0 f0 f1 (F_inverse f1)) from rfl, everyWorld_iff h0]
  obtain ⟨v1, v2⟩ := inverse_bits (Nat.le_trans hn (by decide)) hR
  have hk : ∀ x : Nat, x < n → (F_Frame_hasFlag_k7 (x : Int) f0 f1 (F_inverse f1) = true ↔ ∀ y, rb f1 x y = true → rb f1 y x = true → x = y) := fun x hx => by
    obtain ⟨a1, a2, _⟩ := Mk.and (n := n) (by omega) (hR.2 x hx) (v1.2 x hx)
    unfold F_Frame_hasFlag_k7
    rw [pow_shl (by omega) (by omega), within_bits (n := n) (by omega) a1 (Mk.pow hx)]
    constructor
    · intro h y hxy hyx
      have hy := tb_lt (hR.2 x hx) hxy
      have h1 := h y (by
        rw [a2 y]
        have := v2 x y hx
        unfold rb at this hxy
        rw [hxy, this, decide_eq_true hy]; exact hyx)
      rw [tb_pow] at h1; exact of_decide_eq_true h1
    · intro h y hy
      rw [a2 y, Bool.and_eq_true] at hy
      have h1 := v2 x y hx
      unfold rb at h1
      rw [h1, Bool.and_eq_true] at hy
      rw [tb_pow, decide_eq_true_iff]
      exact h y hy.1 hy.2.2
  have hb : ∀ x y : Nat, x < n → y < n → (fc2 f1 8 (x : Int) (y : Int) = false ↔ (rb f1 y x = true → x = y)) := fun x y hx hy => by
    rw [show fc2 f1 8 (x : Int) (y : Int) = ((!decide ((x : Int) = (y : Int))) && (F_has (gI f1 (y : Int)) (x : Int))) from rfl, tb_has (n := n) (by omega) (hR.2 y hy) (by omega)]
    show ((!decide ((x : Int) = (y : Int))) && rb f1 y x) = false ↔ _
    by_cases e : x = y
    · subst e; simp
    · rw [decide_eq_false (by omega)]
      cases rb f1 y x <;> simp [e]
  constructor
  · intro h x y hx hy hxy
    rw [hb x y hx hy]
    exact (hk x hx).1 (h x hx) y hxy
  · intro h x hx
    rw [hk x hx]
    intro y hxy hyx
    have hy := tb_lt (hR.2 x hx) hxy
    exact (hb x y hx hy).1 (h x y hx hy hxy) hyx
theorem flag9 : F_Frame_hasFlag f0 f1 9 = F_l05Flag f0 f1 9 := by
  rw [Bool.eq_iff_iff, flag_iff2 hn h0 hR (fun _ => rfl) (fun _ _ => rfl), show F_Frame_hasFlag f0 f1 9 = F_Frame_everyPair f0 f1 (fun x0 x1 x2 => F_Frame_hasFlag_k8 x0 x1 x2 f0 f1 (F_inverse f1)) from rfl, everyPair_iff hn hR]
  have hb : ∀ x y : Nat, (fc2 f1 9 (x : Int) (y : Int) = false ↔ (!decide (andI (gI f1 (x : Int)) (gI (F_inverse f1) (y : Int)) = 0)) = true) := fun x y => by
    rw [show fc2 f1 9 (x : Int) (y : Int) = decide (andI (gI f1 (x : Int)) (gI (F_l01Inverse f1) (y : Int)) = 0) from rfl, inverse_eq (Nat.le_trans hn (by decide)) hR, Bool.not_eq_true']
  constructor
  · intro h x y hx hy hxy
    rw [hb x y]
    exact h x y y hx hy hy hxy hxy
  · intro h x y z hx hy hz hxy hxz
    exact (hb x y).1 (h x y hx hy hxy)
theorem flag10 : F_Frame_hasFlag f0 f1 10 = F_l05Flag f0 f1 10 := by
  rw [Bool.eq_iff_iff, flag_iff1 hn h0 hR (fun _ _ => rfl) (fun _ _ => rfl), show F_Frame_hasFlag f0 f1 10 = F_Frame_everyWorld f0 f1 (fun x0 => F_Frame_hasFlag_k9 x0 f0 f1) from rfl, everyWorld_iff h0]
  refine forall_congr' fun x => forall_congr' fun hx => ?_
  have hm := hR.2 x hx
  have hlt : (gI f1 (x : Int)).toNat < 256 := Nat.lt_of_lt_of_le hm.lt (Nat.pow_le_pow_right (by decide) hn : 2 ^ n ≤ 2 ^ 8)
  rw [show fc1 f1 10 (x : Int) = decide (1 < F_l01Bits (gI f1 (x : Int))) from rfl, l01Bits_eq hm.1 (by have := hm.1; omega)]
  show decide (F_countMembers (gI f1 (x : Int)) ≤ 1) = true ↔ _
  rw [decide_eq_true_iff, decide_eq_false_iff_not]
  omega
theorem hasFlag_eq {flag : Int} (hf0 : 0 ≤ flag) (hf10 : flag ≤ 10) : F_Frame_hasFlag f0 f1 flag = F_l05Flag f0 f1 flag := by
  have h : flag = 0 ∨ flag = 1 ∨ flag = 2 ∨ flag = 3 ∨ flag = 4 ∨ flag = 5 ∨ flag = 6 ∨ flag = 7 ∨ flag = 8 ∨ flag = 9 ∨ flag = 10 := by omega
  rcases h with rfl | rfl | rfl | rfl | rfl | rfl | rfl | rfl | rfl | rfl | rfl
  · exact flag0 hn h0 hR
  · exact flag1 hn h0 hR
  · exact flag2 hn h0 hR
  · exact flag3 hn h0 hR
  · exact flag4 hn h0 hR
  · exact flag5 hn h0 hR
  · exact flag6 hn h0 hR
  · exact flag7 hn h0 hR
  · exact flag8 hn h0 hR
  · exact flag9 hn h0 hR
  · exact flag10 hn h0 hR
end
end Go.Proofs.Ytlbonhloeefnmaa
