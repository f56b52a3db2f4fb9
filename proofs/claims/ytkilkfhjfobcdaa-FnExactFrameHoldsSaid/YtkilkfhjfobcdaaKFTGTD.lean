/- GTD: models and contracts, printed by wip/gen/gen.py -/
import Derived.Test.YtkilkfhjfobcdaaKFTGTI
import Derived.Test.YtkilkfhjfobcdaaKFTGQ
set_option linter.unusedVariables false
set_option linter.unusedSimpArgs false
namespace Go.Proofs.Ytkilkfhjfobcdaa
open Go.RowKit
theorem gI_sI0 {xs : List Int} {u : Int} (h0 : 0 ≤ u) (h1 : u.toNat < xs.length) (w : Int) (x : Nat) : gI (sI xs u w) (x : Int) = if (x : Int) = u then w else gI xs (x : Int) := by
  unfold sI gI
  rw [Int.toNat_natCast, gi_set h1]
  by_cases e : u.toNat = x
  · rw [if_pos e, if_pos (by omega)]
  · rw [if_neg e, if_neg (by omega)]
theorem agree_sI {nx ws : List Int} {u w : Int} (h0 : 0 ≤ u) (hu : u.toNat < nx.length) (h : ∀ x : Nat, ¬ (x : Int) = u → gI nx (x : Int) = gI ws (x : Int)) : ∀ x : Nat, ¬ (x : Int) = u → gI (sI nx u w) (x : Int) = gI ws (x : Int) := fun x hx => by
  rw [gI_sI0 h0 hu, if_neg hx, h x hx]
theorem tb_powZ {u : Int} (h0 : 0 ≤ u) (x : Nat) : tb (powI u) x = decide ((x : Int) = u) := by
  obtain ⟨n, rfl⟩ : ∃ n : Nat, u = (n : Int) := ⟨u.toNat, by omega⟩
  rw [tb_pow]
  by_cases e : n = x
  · rw [decide_eq_true e, decide_eq_true (by omega)]
  · rw [decide_eq_false e, decide_eq_false (by omega)]
theorem pm_fr {bd n : Int} {ap ws : List Int} (hf : IsPm bd ap) (h : ∀ x : Nat, tb (F_l10Free ap) x = true → 0 ≤ gI ws (x : Int) ∧ gI ws (x : Int) < n) :
    (gS 3 0 ap 0 ≤ 1 → (0 ≤ gI ws (gS 3 1 ap 0) ∧ gI ws (gS 3 1 ap 0) < n) ∧ 0 ≤ gI ws (gS 3 2 ap 0) ∧ gI ws (gS 3 2 ap 0) < n) ∧ (gS 3 0 ap 0 = 2 → 0 ≤ gI ws (gS 3 2 ap 0) ∧ gI ws (gS 3 2 ap 0) < n) := by
  obtain ⟨t, ht, rfl⟩ := hf
  cases t with
  | leaf k u v =>
    rw [l10Free_tree ht] at h
    obtain ⟨k1, k2, k3, k4⟩ := node_kind ht.2.1
    have bit : ∀ z : Int, 0 ≤ z → tb (Pm.leaf k u v).free z.toNat = true → 0 ≤ gI ws z ∧ gI ws z < n := fun z h0 hb => by
      have := h z.toNat hb
      rwa [Int.toNat_of_nonneg h0] at this
    show (k ≤ 1 → (0 ≤ gI ws u ∧ gI ws u < n) ∧ 0 ≤ gI ws v ∧ gI ws v < n) ∧ (k = 2 → 0 ≤ gI ws v ∧ gI ws v < n)
    refine ⟨fun hk0 => ?_, fun hk2 => ?_⟩
    · have q := k2 hk0
      have e : (Pm.leaf k u v).free = orI (powI u) (powI v) := by
        rcases (show k = 0 ∨ k = 1 by omega) with rfl | rfl <;> rfl
      have o := (Mk.or (n := 10) (by omega) (pow_mk (u := u) (by omega) (by omega)) (pow_mk (u := v) (by omega) (by omega))).2
      refine ⟨bit u (by omega) (by rw [e, o, tb_powZ (by omega), decide_eq_true (by omega)]; rfl), bit v (by omega) (by rw [e, o, tb_powZ (u := v) (by omega), decide_eq_true (by omega), Bool.or_true])⟩
    · have q := k3 hk2
      subst hk2
      exact bit v (by omega) (by rw [show (Pm.leaf 2 u v).free = powI v from rfl, tb_powZ (by omega), decide_eq_true (by omega)])
  | un k u v a =>
    have := un_kind ht.1
    show (k ≤ 1 → _) ∧ (k = 2 → _)
    exact ⟨fun h => by omega, fun h => by omega⟩
  | bin k u v a b =>
    have := bin_kind ht.1
    show (k ≤ 1 → _) ∧ (k = 2 → _)
    exact ⟨fun h => by omega, fun h => by omega⟩
theorem pm_frun {bd n : Int} {ap ws nx : List Int} {w : Int} (hf : IsPm bd ap) (hp : F_pointParts (gS 3 0 ap 0) = 1) (h : ∀ x : Nat, tb (F_l10Free ap) x = true → 0 ≤ gI ws (x : Int) ∧ gI ws (x : Int) < n) (hn : nx.length = 10) (h0 : 0 ≤ w) (h1 : w < n)
    (hag : ∀ x : Nat, ¬ (x : Int) = gS 3 1 ap 0 → gI nx (x : Int) = gI ws (x : Int)) : ∀ x : Nat, tb (F_l10Free (slI 3 ap 1 ((ap.length / 3 : Nat) : Int))) x = true → 0 ≤ gI (sI nx (gS 3 1 ap 0) w) (x : Int) ∧ gI (sI nx (gS 3 1 ap 0) w) (x : Int) < n := by
  obtain ⟨t, ht, rfl⟩ := hf
  have hk := t.kind bd ht
  rw [hp] at hk
  cases t with
  | leaf k u v => exact absurd hk (by simp)
  | un k u v a =>
    rw [l10Free_tree ht] at h
    rw [pm_un, l10Free_tree ht.2]
    obtain ⟨k1, k2, k3, k4⟩ := node_kind ht.1.2.1
    have hu : 0 ≤ u ∧ u ≤ 9 := k4 (by have := un_kind ht.1; omega)
    intro x hx
    show 0 ≤ gI (sI nx u w) (x : Int) ∧ gI (sI nx u w) (x : Int) < n
    rw [gI_sI0 hu.1 (by omega)]
    by_cases e : (x : Int) = u
    · rw [if_pos e]; exact ⟨h0, h1⟩
    · rw [if_neg e, hag x e]
      refine h x ?_
      show tb (anI a.free (powI u)) x = true
      rw [(anI_mk (n := 10) (by omega) (a.free_mk ht.2) (pow_mk hu.1 (by omega))).2, hx, tb_powZ hu.1, decide_eq_false e]; rfl
  | bin k u v a b => exact absurd hk (by simp)
theorem pm_frbin {bd n : Int} {ap ws : List Int} (hf : IsPm bd ap) (hp : F_pointParts (gS 3 0 ap 0) = 2) (h : ∀ x : Nat, tb (F_l10Free ap) x = true → 0 ≤ gI ws (x : Int) ∧ gI ws (x : Int) < n) : (∀ x : Nat, tb (F_l10Free (slI 3 ap 1 (F_l10End ap 1))) x = true → 0 ≤ gI ws (x : Int) ∧ gI ws (x : Int) < n) ∧ (∀ x : Nat, tb (F_l10Free (slI 3 ap (F_l10End ap 1) ((ap.length / 3 : Nat) : Int))) x = true → 0 ≤ gI ws (x : Int) ∧ gI ws (x : Int) < n) := by
  obtain ⟨t, ht, rfl⟩ := hf
  have hk := t.kind bd ht
  rw [hp] at hk
  cases t with
  | leaf k u v => exact absurd hk (by simp)
  | un k u v a => exact absurd hk (by simp)
  | bin k u v a b =>
    rw [l10Free_tree ht] at h
    obtain ⟨p0, p1, p2, p3⟩ := pm_part ht
    rw [p1, p2, p3, l10Free_tree ht.2.1, l10Free_tree ht.2.2]
    have o := (Mk.or (n := 10) (by omega) (a.free_mk ht.2.1) (b.free_mk ht.2.2)).2
    refine ⟨fun x hx => h x ?_, fun x hx => h x ?_⟩
    · show tb (orI a.free b.free) x = true
      rw [o, hx]; rfl
    · show tb (orI a.free b.free) x = true
      rw [o, hx, Bool.or_true]
theorem pm_frL {bd n : Int} {ap ws : List Int} (hf : IsPm bd ap) (hp : F_pointParts (gS 3 0 ap 0) = 2) (h : ∀ x : Nat, tb (F_l10Free ap) x = true → 0 ≤ gI ws (x : Int) ∧ gI ws (x : Int) < n) : ∀ x : Nat, tb (F_l10Free (slI 3 ap 1 (F_l10End ap 1))) x = true → 0 ≤ gI ws (x : Int) ∧ gI ws (x : Int) < n := (pm_frbin hf hp h).1
theorem pm_frR {bd n : Int} {ap ws : List Int} (hf : IsPm bd ap) (hp : F_pointParts (gS 3 0 ap 0) = 2) (h : ∀ x : Nat, tb (F_l10Free ap) x = true → 0 ≤ gI ws (x : Int) ∧ gI ws (x : Int) < n) : ∀ x : Nat, tb (F_l10Free (slI 3 ap (F_l10End ap 1) ((ap.length / 3 : Nat) : Int))) x = true → 0 ≤ gI ws (x : Int) ∧ gI ws (x : Int) < n := (pm_frbin hf hp h).2
theorem below_rw {bd : Int} {ap : List Int} (hf : IsPm bd ap) : (F_pointParts (gS 3 0 ap 0) = 1 → F_below ap = [slI 3 ap 1 ((ap.length / 3 : Nat) : Int)]) ∧ (F_pointParts (gS 3 0 ap 0) = 2 → F_below ap = [slI 3 ap 1 (F_l10End ap 1), slI 3 ap (F_l10End ap 1) ((ap.length / 3 : Nat) : Int)]) := by
  refine ⟨fun h => ?_, fun h => ?_⟩
  · unfold F_below
    rw [decide_eq_true h, cond_true]
  · have e := (hf.bin h).2.2.2.2
    unfold F_below
    rw [decide_eq_false (show ¬ F_pointParts (gS 3 0 ap 0) = 1 by omega), cond_false, decide_eq_true h, cond_true, e]
theorem pm_frunI {bd n : Int} {ap ws nx : List Int} {w : Int} (hf : IsPm bd ap) (hp : F_pointParts (gS 3 0 ap 0) = 1) (h : ∀ x : Nat, tb (F_l10Free ap) x = true → 0 ≤ gI ws (x : Int) ∧ gI ws (x : Int) < n) (hn : nx.length = 10) (h0 : 0 ≤ w) (h1 : w < n)
    (hag : ∀ x : Nat, ¬ (x : Int) = gS 3 1 ap 0 → gI nx (x : Int) = gI ws (x : Int)) : ∀ x : Nat, tb (F_l10Free (gL (F_below ap) 0)) x = true → 0 ≤ gI (sI nx (gS 3 1 ap 0) w) (x : Int) ∧ gI (sI nx (gS 3 1 ap 0) w) (x : Int) < n := by
  rw [(below_rw hf).1 hp]
  exact pm_frun hf hp h hn h0 h1 hag
theorem pm_frB {bd n : Int} {ap ws : List Int} (hf : IsPm bd ap) (hp : F_pointParts (gS 3 0 ap 0) = 2) (h : ∀ x : Nat, tb (F_l10Free ap) x = true → 0 ≤ gI ws (x : Int) ∧ gI ws (x : Int) < n) {m : Int} (h0 : 0 ≤ m) (h1 : m < 2) : ∀ x : Nat, tb (F_l10Free (gL (F_below ap) m)) x = true → 0 ≤ gI ws (x : Int) ∧ gI ws (x : Int) < n := by
  rw [(below_rw hf).2 hp]
  rcases (show m = 0 ∨ m = 1 by omega) with rfl | rfl
  · exact pm_frL hf hp h
  · exact pm_frR hf hp h
theorem below_le (ap : List Int) (m : Int) : (gL (F_below ap) m).length ≤ ap.length := by
  unfold gL F_below
  generalize m.toNat = k
  cases decide (F_pointParts (gS 3 0 ap 0) = 1)
  · cases decide (F_pointParts (gS 3 0 ap 0) = 2)
    · rcases k with _ | k <;> exact Nat.zero_le _
    · rcases k with _ | _ | k
      · exact slI_le 3 _ _ _
      · exact slI_le 3 _ _ _
      · exact Nat.zero_le _
  · rcases k with _ | k
    · exact slI_le 3 _ _ _
    · exact Nat.zero_le _
def F_l10Holds_L1b (mp0 : Int) (mp1 : List Int) (mp2 : List Int) (ap : List Int) (self : Int → List Int → List Int → List Int → List Int → Bool) (rec : Int → (List Int) → Except (Bool) (Int × (List Int))) (w10 : Int) (next9 : List Int) : Except (Bool) (Int × (List Int)) :=
  bif (decide (w10 < mp0)) then (bif ((self mp0 mp1 mp2 (slI 3 ap 1 (((ap).length / 3 : Nat) : Int)) (sI next9 (gS 3 1 ap 0) w10)) != (decide ((gS 3 0 ap 0) = 7))) then (.error (!(decide ((gS 3 0 ap 0) = 7)))) else (rec (w10 + 1) (sI next9 (gS 3 1 ap 0) w10))) else (.ok (w10, next9))
def F_l10Holds_L1 (mp0 : Int) (mp1 : List Int) (mp2 : List Int) (ap : List Int) (self : Int → List Int → List Int → List Int → List Int → Bool) : Nat → Int → (List Int) → Except (Bool) (Int × (List Int))
  | 0, w10, next9 => .ok (w10, next9)
  | r + 1, w10, next9 => F_l10Holds_L1b mp0 mp1 mp2 ap self (F_l10Holds_L1 mp0 mp1 mp2 ap self r) w10 next9
def F_l10Holds_L2b (mp0 : Int) (mp1 : List Int) (mp2 : List Int) (ap : List Int) (self : Int → List Int → List Int → List Int → List Int → Bool) (rec : Int → (List Int) → Except (Bool) (Int × (List Int))) (w10L2 : Int) (next9L2 : List Int) : Except (Bool) (Int × (List Int)) :=
  bif (decide (w10L2 < mp0)) then (bif ((self mp0 mp1 mp2 (slI 3 ap 1 (((ap).length / 3 : Nat) : Int)) (sI next9L2 (gS 3 1 ap 0) w10L2)) != (decide ((gS 3 0 ap 0) = 7))) then (.error (!(decide ((gS 3 0 ap 0) = 7)))) else (rec (w10L2 + 1) (sI next9L2 (gS 3 1 ap 0) w10L2))) else (.ok (w10L2, next9L2))
def F_l10Holds_L2 (mp0 : Int) (mp1 : List Int) (mp2 : List Int) (ap : List Int) (self : Int → List Int → List Int → List Int → List Int → Bool) : Nat → Int → (List Int) → Except (Bool) (Int × (List Int))
  | 0, w10L2, next9L2 => .ok (w10L2, next9L2)
  | r + 1, w10L2, next9L2 => F_l10Holds_L2b mp0 mp1 mp2 ap self (F_l10Holds_L2 mp0 mp1 mp2 ap self r) w10L2 next9L2
def F_l10Holds_b (self : Int → List Int → List Int → List Int → List Int → Bool) (mp0 : Int) (mp1 : List Int) (mp2 : List Int) (ap : List Int) (worlds : List Int) : Bool :=
  bif (decide ((gS 3 0 ap 0) = 0)) then (F_l01Bit (gI mp1 (gI worlds (gS 3 1 ap 0))) (gI worlds (gS 3 2 ap 0))) else (bif (decide ((gS 3 0 ap 0) = 1)) then (decide ((gI worlds (gS 3 1 ap 0)) = (gI worlds (gS 3 2 ap 0)))) else (bif (decide ((gS 3 0 ap 0) = 2)) then (F_l01Bit (gI mp2 (gS 3 1 ap 0)) (gI worlds (gS 3 2 ap 0))) else (bif (decide ((gS 3 0 ap 0) = 3)) then false else (bif (decide ((gS 3 0 ap 0) = 7)) then (bif (isOk (F_l10Holds_L1 mp0 mp1 mp2 ap self (Int.toNat (mp0 - 0) + 1) 0 worlds)) then (decide ((gS 3 0 ap 0) = 7)) else (errD (F_l10Holds_L1 mp0 mp1 mp2 ap self (Int.toNat (mp0 - 0) + 1) 0 worlds))) else (bif (decide ((gS 3 0 ap 0) = 8)) then (bif (isOk (F_l10Holds_L2 mp0 mp1 mp2 ap self (Int.toNat (mp0 - 0) + 1) 0 worlds)) then (decide ((gS 3 0 ap 0) = 7)) else (errD (F_l10Holds_L2 mp0 mp1 mp2 ap self (Int.toNat (mp0 - 0) + 1) 0 worlds))) else (bif (decide ((gS 3 0 ap 0) = 4)) then (bif (!(self mp0 mp1 mp2 (slI 3 ap 1 (F_l10End ap 1)) worlds)) then false else (bif (decide ((gS 3 0 ap 0) = 5)) then (bif (self mp0 mp1 mp2 (slI 3 ap 1 (F_l10End ap 1)) worlds) then true else (bif (decide ((gS 3 0 ap 0) = 6)) then (bif (!false) then true else (self mp0 mp1 mp2 (slI 3 ap (F_l10End ap 1) ((ap.length / 3 : Nat) : Int)) worlds)) else (self mp0 mp1 mp2 (slI 3 ap (F_l10End ap 1) ((ap.length / 3 : Nat) : Int)) worlds))) else (bif (decide ((gS 3 0 ap 0) = 6)) then (self mp0 mp1 mp2 (slI 3 ap (F_l10End ap 1) ((ap.length / 3 : Nat) : Int)) worlds) else (self mp0 mp1 mp2 (slI 3 ap (F_l10End ap 1) ((ap.length / 3 : Nat) : Int)) worlds)))) else (bif (decide ((gS 3 0 ap 0) = 5)) then (bif (self mp0 mp1 mp2 (slI 3 ap 1 (F_l10End ap 1)) worlds) then true else (bif (decide ((gS 3 0 ap 0) = 6)) then (bif (!false) then true else (self mp0 mp1 mp2 (slI 3 ap (F_l10End ap 1) ((ap.length / 3 : Nat) : Int)) worlds)) else (self mp0 mp1 mp2 (slI 3 ap (F_l10End ap 1) ((ap.length / 3 : Nat) : Int)) worlds))) else (bif (decide ((gS 3 0 ap 0) = 6)) then (bif (!(self mp0 mp1 mp2 (slI 3 ap 1 (F_l10End ap 1)) worlds)) then true else (self mp0 mp1 mp2 (slI 3 ap (F_l10End ap 1) ((ap.length / 3 : Nat) : Int)) worlds)) else (self mp0 mp1 mp2 (slI 3 ap (F_l10End ap 1) ((ap.length / 3 : Nat) : Int)) worlds)))))))))
def F_l10Holds_r : Nat → Int → List Int → List Int → List Int → List Int → Bool
  | 0 => fun _ _ _ _ _ => default
  | r + 1 => F_l10Holds_b (F_l10Holds_r r)
def F_l10Holds (mp0 : Int) (mp1 : List Int) (mp2 : List Int) (ap : List Int) (worlds : List Int) : Bool := F_l10Holds_r (ap.length + 1) mp0 mp1 mp2 ap worlds
theorem cf_l10Holds (args : Array Value) (w : World) : (callFunc 114 args).run Try.prog w = .ok (.enter 114 args) w := by kernel_rfl
set_option maxHeartbeats 1600000 in
set_option maxRecDepth 100000 in
theorem cb_l10Holds (self : Int → List Int → List Int → List Int → List Int → Bool) (mp0 : Int) (mp1A : Option Addr) (mp1N mp1C : Nat) (mp1 : List Int) (mp2A : Option Addr) (mp2N mp2C : Nat) (mp2 : List Int) (apA : Option Addr) (apN apC : Nat) (ap : List Int) (worldsA : Option Addr) (worldsN worldsC : Nat) (worlds : List Int) (w : World) (mp1R : RdS w 1 mp1A mp1N mp1C mp1) (mp2R : RdS w 1 mp2A mp2N mp2C mp2) (apR : RdS w 3 apA apN apC ap) (worldsR : RdS w 1 worldsA worldsN worldsC worlds) (hm0 : 0 ≤ mp0 ∧ mp0 ≤ 8) (hml : (mp1.length : Int) = mp0) (hvl : mp2.length ≤ 6) (hl : ap.length ≤ 4194304) (hf : IsPm (mp2.length : Int) ap) (hw : worlds.length = 10) (hfw : ∀ x : Nat, tb (F_l10Free ap) x = true → 0 ≤ gI worlds (x : Int) ∧ gI worlds (x : Int) < mp0) (mu : Nat) (hmu : mu = ap.length) (ih : ∀ (mp0 : Int) (mp1A : Option Addr) (mp1N mp1C : Nat) (mp1 : List Int) (mp2A : Option Addr) (mp2N mp2C : Nat) (mp2 : List Int) (apA : Option Addr) (apN apC : Nat) (ap : List Int) (worldsA : Option Addr) (worldsN worldsC : Nat) (worlds : List Int) (w : World) (mp1R : RdS w 1 mp1A mp1N mp1C mp1) (mp2R : RdS w 1 mp2A mp2N mp2C mp2) (apR : RdS w 3 apA apN apC ap) (worldsR : RdS w 1 worldsA worldsN worldsC worlds) (hm0 : 0 ≤ mp0 ∧ mp0 ≤ 8) (hml : (mp1.length : Int) = mp0) (hvl : mp2.length ≤ 6) (hl : ap.length ≤ 4194304) (hf : IsPm (mp2.length : Int) ap) (hw : worlds.length = 10) (hfw : ∀ x : Nat, tb (F_l10Free ap) x = true → 0 ≤ gI worlds (x : Int) ∧ gI worlds (x : Int) < mp0) (hdec : ap.length < mu), Calls Try.prog 114 #[.agg #[.int .i64 mp0, .slice mp1A mp1N mp1C, .slice mp2A mp2N mp2C], .slice apA apN apC, .slice worldsA worldsN worldsC] w (Ret fun v w' => v = .bool (self mp0 mp1 mp2 ap worlds) ∧ Ext w w')) :
    Calls Try.prog 114 #[.agg #[.int .i64 mp0, .slice mp1A mp1N mp1C, .slice mp2A mp2N mp2C], .slice apA apN apC, .slice worldsA worldsN worldsC] w (Ret fun v w' => v = .bool (F_l10Holds_b self mp0 mp1 mp2 ap worlds) ∧ Ext w w') := by
  obtain rfl : mp1N = mp1.length := mp1R.len1.symm
  have mp1Le := mp1R.le
  obtain rfl : mp2N = mp2.length := mp2R.len1.symm
  have mp2Le := mp2R.le
  obtain rfl : apN = ap.length / 3 := (apR.lenD (by decide)).symm
  have apEv := apR.ev (by decide)
  have apLe := apR.le
  obtain rfl : worldsN = worlds.length := worldsR.len1.symm
  have worldsLe := worldsR.le
  have hl1 := hf.len
  have hpk := pm_kind hf
  have hfr := pm_fr hf hfw
  have hS := St.nil w
  have hS1 := St.rd0 hS rfl mp1R; clear hS
  have hS2 := St.rd0 hS1 rfl mp2R; clear hS1
  have hS3 := St.rd0 hS2 rfl apR; clear hS2
  have hS4 := St.rd0 hS3 rfl worldsR; clear hS3
  refine enter (args := [.agg #[.int .i64 mp0, .slice mp1A mp1.length mp1C, .slice mp2A mp2.length mp2C], .slice apA ((ap).length / 3 : Nat) apC, .slice worldsA worlds.length worldsC]) Try.func114 rfl rfl ?_
  rw [Try.ntmps114]; intro a hE
  have hE := hE.sub (L' := [(0, .agg #[.int .i64 mp0, .slice mp1A mp1.length mp1C, .slice mp2A mp2.length mp2C]), (1, .slice apA ((ap).length / 3 : Nat) apC), (2, .slice worldsA worlds.length worldsC)]) ⟨rfl, rfl, rfl, trivial⟩
  refine c_seq ?_
  refine c_reg ?_
  refine l_step hE rfl (l_box (v := .agg #[.int .i64 mp0, .slice mp1A mp1.length mp1C, .slice mp2A mp2.length mp2C]) (cs := #[.int .i64 mp0, .slice mp1A mp1.length mp1C, .slice mp2A mp2.length mp2C]) hS4 hE rfl rfl rfl ?_)
  intro b5 w6 hS9 he10 a7 hE8; clear hS4 hE
  refine q_step (v := .bool false) hE8 (y_assign rfl) rfl rfl rfl ?_; intro a11 hE12; clear hE8
  refine c_nil ?_
  have hE13 := hE12.sub (L' := [(1, .slice apA ((ap).length / 3 : Nat) apC), (2, .slice worldsA worlds.length worldsC), (3, .pointer (some ⟨b5, 0, none⟩))]) ⟨rfl, rfl, rfl, trivial⟩; clear hE12
  refine p_tn ?_
  refine c_seq ?_
  refine c_reg ?_
  refine q_step (v := .slice apA ((ap).length / 3 : Nat) apC) hE13 (y_move rfl) rfl rfl rfl ?_; intro a14 hE15; clear hE13
  refine q_step (v := .pointer (some (adr apA (Int.toNat 0 * 3)))) hE15 (y_idx (by kernel_rfl) (fun _ => by kernel_rfl) rfl rfl (RdS.isS (m := 0) (St.rdR (i := 2) hS9 rfl) (by omega) (by omega)) (by omega) (by omega) rfl) rfl rfl rfl ?_; intro a16 hE17; clear hE15
  refine q_step (v := .agg #[.int .i64 (gS 3 0 ap 0), .int .i64 (gS 3 1 ap 0), .int .i64 (gS 3 2 ap 0)]) hE17 (y_loadE Try.underlying115 rfl (by kernel_rfl) rfl (RdS.rng3 (St.rdR (i := 2) hS9 rfl) (by omega) (by omega))) rfl rfl rfl ?_; intro a18 hE19; clear hE17
  refine l_step hE19 rfl (l_alloc (z := .agg #[.int .i64 0, .int .i64 0, .int .i64 0]) (cs := #[.int .i64 0, .int .i64 0, .int .i64 0]) hS9 hE19 (fun _ => by kernel_rfl) rfl rfl ?_)
  intro b20 w21 hS24 he25 a22 hE23; clear hS9 hE19
  refine l_step hE23 rfl (l_storeS (k := 0) (cs' := #[.int .i64 (gS 3 0 ap 0), .int .i64 (gS 3 1 ap 0), .int .i64 (gS 3 2 ap 0)]) hS24 hE23 (by kernel_rfl) rfl rfl (by kernel_rfl) rfl rfl ?_)
  intro w27 hS30 a28 hE29; clear hS24 hE23
  refine c_nil ?_
  have hE32 := hE29.sub (L' := [(1, .slice apA ((ap).length / 3 : Nat) apC), (2, .slice worldsA worlds.length worldsC), (3, .pointer (some ⟨b5, 0, none⟩)), (7, .pointer (some ⟨b20, 0, none⟩))]) ⟨rfl, rfl, rfl, rfl, trivial⟩; clear hE29
  refine p_tn ?_
  refine c_seq ?_
  refine c_seq ?_
  refine c_reg ?_
  refine q_step (v := .pointer (some ⟨b20, 0, none⟩)) hE32 (y_field rfl (fun _ => by kernel_rfl)) rfl rfl rfl ?_; intro a33 hE34; clear hE32
  refine q_step (v := .int .i64 (gS 3 0 ap 0)) hE34 (y_load (fun _ => by kernel_rfl) rfl (St.cell (i := 0) hS30 rfl rfl)) rfl rfl rfl ?_; intro a35 hE36; clear hE34
  refine c_nil ?_
  have hE37 := hE36.sub (L' := [(1, .slice apA ((ap).length / 3 : Nat) apC), (2, .slice worldsA worlds.length worldsC), (3, .pointer (some ⟨b5, 0, none⟩)), (7, .pointer (some ⟨b20, 0, none⟩)), (16, .int .i64 (gS 3 0 ap 0))]) ⟨rfl, rfl, rfl, rfl, rfl, trivial⟩; clear hE36
  refine p_tn ?_
  refine wp_block ?_
  refine c_seq ?_
  refine c_reg ?_
  refine q_step (v := .bool (decide ((gS 3 0 ap 0) = 0))) hE37 (y_eql rfl rfl) rfl rfl rfl ?_; intro a38 hE39; clear hE37
  refine q_step (v := .bool (decide ((gS 3 0 ap 0) = 0))) hE39 (y_assign rfl) rfl rfl rfl ?_; intro a40 hE41; clear hE39
  refine c_nil ?_
  have hE42 := hE41.sub (L' := [(1, .slice apA ((ap).length / 3 : Nat) apC), (2, .slice worldsA worlds.length worldsC), (3, .pointer (some ⟨b5, 0, none⟩)), (7, .pointer (some ⟨b20, 0, none⟩)), (16, .int .i64 (gS 3 0 ap 0)), (17, .bool (decide ((gS 3 0 ap 0) = 0)))]) ⟨rfl, rfl, rfl, rfl, rfl, rfl, trivial⟩; clear hE41
  refine p_tn ?_
  refine c_cond hE42 rfl (fun ht43 => ?_) (fun ht43 => ?_)
  ·
   have hp44 := of_decide_eq_true ht43
   have hE45 := hE42; rw [ht43] at hE45; clear hE42
   refine c_seq ?_
   refine d_start (fun w w' => (fun w' => w'.cell? ⟨b5, 1, none⟩ = some (.slice mp1A mp1.length mp1C) ∧ w'.cell? ⟨b20, 1, none⟩ = some (.int .i64 (gS 3 1 ap 0)) ∧ w'.cell? (adr worldsA (Int.toNat (gS 3 1 ap 0))) = some (.int .i64 (gI worlds (gS 3 1 ap 0))) ∧ w'.cell? (adr mp1A (Int.toNat (gI worlds (gS 3 1 ap 0)))) = some (.int .i64 (gI mp1 (gI worlds (gS 3 1 ap 0)))) ∧ w'.cell? ⟨b20, 2, none⟩ = some (.int .i64 (gS 3 2 ap 0)) ∧ w'.cell? (adr worldsA (Int.toNat (gS 3 2 ap 0))) = some (.int .i64 (gI worlds (gS 3 2 ap 0))) ∧ True) w → (fun w' => w'.cell? ⟨b5, 1, none⟩ = some (.slice mp1A mp1.length mp1C) ∧ w'.cell? ⟨b20, 1, none⟩ = some (.int .i64 (gS 3 1 ap 0)) ∧ w'.cell? (adr worldsA (Int.toNat (gS 3 1 ap 0))) = some (.int .i64 (gI worlds (gS 3 1 ap 0))) ∧ w'.cell? (adr mp1A (Int.toNat (gI worlds (gS 3 1 ap 0)))) = some (.int .i64 (gI mp1 (gI worlds (gS 3 1 ap 0)))) ∧ w'.cell? ⟨b20, 2, none⟩ = some (.int .i64 (gS 3 2 ap 0)) ∧ w'.cell? (adr worldsA (Int.toNat (gS 3 2 ap 0))) = some (.int .i64 (gI worlds (gS 3 2 ap 0))) ∧ True) w') [2, 5, 7, 9, 12, 14] 17 (by kernel_rfl) rfl ?_
   intro w46 he47; have hS48 := St.go hS30 he47; clear hS30
   refine d_pure (fun _ h => h) (v := .pointer (some ⟨b5, 0, none⟩)) 0 rfl hE45 (y_field rfl (fun _ => by kernel_rfl)) rfl (by kernel_rfl) (by kernel_rfl) (by kernel_rfl) rfl rfl (fun _ _ _ h => h) ?_; intro a49 hE50; clear hE45
   refine d_pure (fun _ h => h) (v := .pointer (some ⟨b5, 1, none⟩)) 1 rfl hE50 (y_field rfl (fun _ => by kernel_rfl)) rfl (by kernel_rfl) (by kernel_rfl) (by kernel_rfl) rfl rfl (fun _ _ _ h => h) ?_; intro a51 hE52; clear hE50
   refine d_take (fun _ h => h) (fun _ _ h k => h k) (v := .slice mp1A mp1.length mp1C) 2 rfl hE52 (S := fun w' => w'.cell? ⟨b5, 1, none⟩ = some (.slice mp1A mp1.length mp1C) ∧ w'.cell? ⟨b20, 1, none⟩ = some (.int .i64 (gS 3 1 ap 0)) ∧ w'.cell? (adr worldsA (Int.toNat (gS 3 1 ap 0))) = some (.int .i64 (gI worlds (gS 3 1 ap 0))) ∧ w'.cell? (adr mp1A (Int.toNat (gI worlds (gS 3 1 ap 0)))) = some (.int .i64 (gI mp1 (gI worlds (gS 3 1 ap 0)))) ∧ w'.cell? ⟨b20, 2, none⟩ = some (.int .i64 (gS 3 2 ap 0)) ∧ w'.cell? (adr worldsA (Int.toNat (gS 3 2 ap 0))) = some (.int .i64 (gI worlds (gS 3 2 ap 0))) ∧ True) ⟨(St.cell (i := 1) hS48 rfl rfl _ (Ext.refl _)), (St.cell (i := 0) hS48 rfl rfl _ (Ext.refl _)), (RdS.elt (St.rdR (i := 2) hS48 rfl) (by omega) (by omega) _ (Ext.refl _)), (RdS.elt (St.rdR (i := 5) hS48 rfl) (by omega) (by omega) _ (Ext.refl _)), (St.cell (i := 0) hS48 rfl rfl _ (Ext.refl _)), (RdS.elt (St.rdR (i := 2) hS48 rfl) (by omega) (by omega) _ (Ext.refl _)), trivial⟩ (y_load (fun _ => by kernel_rfl) rfl (fun _ h => h.1)) rfl rfl (by kernel_rfl) (by kernel_rfl) (by kernel_rfl) (by kernel_rfl) rfl rfl (fun _ _ _ h => h) ?_; intro a53 hE54; clear hE52
   refine d_pure (fun _ h => h) (v := .slice worldsA worlds.length worldsC) 3 rfl hE54 (y_move rfl) rfl (by kernel_rfl) (by kernel_rfl) (by kernel_rfl) rfl rfl (fun _ _ _ h => h) ?_; intro a55 hE56; clear hE54
   refine d_pure (fun _ h => h) (v := .pointer (some ⟨b20, 1, none⟩)) 4 rfl hE56 (y_field rfl (fun _ => by kernel_rfl)) rfl (by kernel_rfl) (by kernel_rfl) (by kernel_rfl) rfl rfl (fun _ _ _ h => h) ?_; intro a57 hE58; clear hE56
   refine d_take (fun _ h => h) (fun _ _ h k => h k) (v := .int .i64 (gS 3 1 ap 0)) 5 rfl hE58 (S := fun w' => w'.cell? ⟨b5, 1, none⟩ = some (.slice mp1A mp1.length mp1C) ∧ w'.cell? ⟨b20, 1, none⟩ = some (.int .i64 (gS 3 1 ap 0)) ∧ w'.cell? (adr worldsA (Int.toNat (gS 3 1 ap 0))) = some (.int .i64 (gI worlds (gS 3 1 ap 0))) ∧ w'.cell? (adr mp1A (Int.toNat (gI worlds (gS 3 1 ap 0)))) = some (.int .i64 (gI mp1 (gI worlds (gS 3 1 ap 0)))) ∧ w'.cell? ⟨b20, 2, none⟩ = some (.int .i64 (gS 3 2 ap 0)) ∧ w'.cell? (adr worldsA (Int.toNat (gS 3 2 ap 0))) = some (.int .i64 (gI worlds (gS 3 2 ap 0))) ∧ True) ⟨(St.cell (i := 1) hS48 rfl rfl _ (Ext.refl _)), (St.cell (i := 0) hS48 rfl rfl _ (Ext.refl _)), (RdS.elt (St.rdR (i := 2) hS48 rfl) (by omega) (by omega) _ (Ext.refl _)), (RdS.elt (St.rdR (i := 5) hS48 rfl) (by omega) (by omega) _ (Ext.refl _)), (St.cell (i := 0) hS48 rfl rfl _ (Ext.refl _)), (RdS.elt (St.rdR (i := 2) hS48 rfl) (by omega) (by omega) _ (Ext.refl _)), trivial⟩ (y_load (fun _ => by kernel_rfl) rfl (fun _ h => h.2.1)) rfl rfl (by kernel_rfl) (by kernel_rfl) (by kernel_rfl) (by kernel_rfl) rfl rfl (fun _ _ _ h => h) ?_; intro a59 hE60; clear hE58
   refine d_pure (fun _ h => h) (v := .pointer (some (adr worldsA (Int.toNat (gS 3 1 ap 0))))) 6 rfl hE60 (y_idx (by kernel_rfl) (fun _ => by kernel_rfl) rfl rfl (RdS.isS (m := gS 3 1 ap 0) (St.rdR (i := 2) hS48 rfl) (by omega) (by omega)) (by omega) (by omega) (Nat.mul_one _).symm) rfl (by kernel_rfl) (by kernel_rfl) (by kernel_rfl) rfl rfl (fun _ _ _ h => h) ?_; intro a61 hE62; clear hE60
   refine d_take (fun _ h => h) (fun _ _ h k => h k) (v := .int .i64 (gI worlds (gS 3 1 ap 0))) 7 rfl hE62 (S := fun w' => w'.cell? ⟨b5, 1, none⟩ = some (.slice mp1A mp1.length mp1C) ∧ w'.cell? ⟨b20, 1, none⟩ = some (.int .i64 (gS 3 1 ap 0)) ∧ w'.cell? (adr worldsA (Int.toNat (gS 3 1 ap 0))) = some (.int .i64 (gI worlds (gS 3 1 ap 0))) ∧ w'.cell? (adr mp1A (Int.toNat (gI worlds (gS 3 1 ap 0)))) = some (.int .i64 (gI mp1 (gI worlds (gS 3 1 ap 0)))) ∧ w'.cell? ⟨b20, 2, none⟩ = some (.int .i64 (gS 3 2 ap 0)) ∧ w'.cell? (adr worldsA (Int.toNat (gS 3 2 ap 0))) = some (.int .i64 (gI worlds (gS 3 2 ap 0))) ∧ True) ⟨(St.cell (i := 1) hS48 rfl rfl _ (Ext.refl _)), (St.cell (i := 0) hS48 rfl rfl _ (Ext.refl _)), (RdS.elt (St.rdR (i := 2) hS48 rfl) (by omega) (by omega) _ (Ext.refl _)), (RdS.elt (St.rdR (i := 5) hS48 rfl) (by omega) (by omega) _ (Ext.refl _)), (St.cell (i := 0) hS48 rfl rfl _ (Ext.refl _)), (RdS.elt (St.rdR (i := 2) hS48 rfl) (by omega) (by omega) _ (Ext.refl _)), trivial⟩ (y_load (fun _ => by kernel_rfl) rfl (fun _ h => h.2.2.1)) rfl rfl (by kernel_rfl) (by kernel_rfl) (by kernel_rfl) (by kernel_rfl) rfl rfl (fun _ _ _ h => h) ?_; intro a63 hE64; clear hE62
   refine d_pure (fun _ h => h) (v := .pointer (some (adr mp1A (Int.toNat (gI worlds (gS 3 1 ap 0)))))) 8 rfl hE64 (y_idx (by kernel_rfl) (fun _ => by kernel_rfl) rfl rfl (RdS.isS (m := gI worlds (gS 3 1 ap 0)) (St.rdR (i := 5) hS48 rfl) (by omega) (by omega)) (by omega) (by omega) (Nat.mul_one _).symm) rfl (by kernel_rfl) (by kernel_rfl) (by kernel_rfl) rfl rfl (fun _ _ _ h => h) ?_; intro a65 hE66; clear hE64
   refine d_take (fun _ h => h) (fun _ _ h k => h k) (v := .int .i64 (gI mp1 (gI worlds (gS 3 1 ap 0)))) 9 rfl hE66 (S := fun w' => w'.cell? ⟨b5, 1, none⟩ = some (.slice mp1A mp1.length mp1C) ∧ w'.cell? ⟨b20, 1, none⟩ = some (.int .i64 (gS 3 1 ap 0)) ∧ w'.cell? (adr worldsA (Int.toNat (gS 3 1 ap 0))) = some (.int .i64 (gI worlds (gS 3 1 ap 0))) ∧ w'.cell? (adr mp1A (Int.toNat (gI worlds (gS 3 1 ap 0)))) = some (.int .i64 (gI mp1 (gI worlds (gS 3 1 ap 0)))) ∧ w'.cell? ⟨b20, 2, none⟩ = some (.int .i64 (gS 3 2 ap 0)) ∧ w'.cell? (adr worldsA (Int.toNat (gS 3 2 ap 0))) = some (.int .i64 (gI worlds (gS 3 2 ap 0))) ∧ True) ⟨(St.cell (i := 1) hS48 rfl rfl _ (Ext.refl _)), (St.cell (i := 0) hS48 rfl rfl _ (Ext.refl _)), (RdS.elt (St.rdR (i := 2) hS48 rfl) (by omega) (by omega) _ (Ext.refl _)), (RdS.elt (St.rdR (i := 5) hS48 rfl) (by omega) (by omega) _ (Ext.refl _)), (St.cell (i := 0) hS48 rfl rfl _ (Ext.refl _)), (RdS.elt (St.rdR (i := 2) hS48 rfl) (by omega) (by omega) _ (Ext.refl _)), trivial⟩ (y_load (fun _ => by kernel_rfl) rfl (fun _ h => h.2.2.2.1)) rfl rfl (by kernel_rfl) (by kernel_rfl) (by kernel_rfl) (by kernel_rfl) rfl rfl (fun _ _ _ h => h) ?_; intro a67 hE68; clear hE66
   refine d_pure (fun _ h => h) (v := .slice worldsA worlds.length worldsC) 10 rfl hE68 (y_move rfl) rfl (by kernel_rfl) (by kernel_rfl) (by kernel_rfl) rfl rfl (fun _ _ _ h => h) ?_; intro a69 hE70; clear hE68
   refine d_pure (fun _ h => h) (v := .pointer (some ⟨b20, 2, none⟩)) 11 rfl hE70 (y_field rfl (fun _ => by kernel_rfl)) rfl (by kernel_rfl) (by kernel_rfl) (by kernel_rfl) rfl rfl (fun _ _ _ h => h) ?_; intro a71 hE72; clear hE70
   refine d_take (fun _ h => h) (fun _ _ h k => h k) (v := .int .i64 (gS 3 2 ap 0)) 12 rfl hE72 (S := fun w' => w'.cell? ⟨b5, 1, none⟩ = some (.slice mp1A mp1.length mp1C) ∧ w'.cell? ⟨b20, 1, none⟩ = some (.int .i64 (gS 3 1 ap 0)) ∧ w'.cell? (adr worldsA (Int.toNat (gS 3 1 ap 0))) = some (.int .i64 (gI worlds (gS 3 1 ap 0))) ∧ w'.cell? (adr mp1A (Int.toNat (gI worlds (gS 3 1 ap 0)))) = some (.int .i64 (gI mp1 (gI worlds (gS 3 1 ap 0)))) ∧ w'.cell? ⟨b20, 2, none⟩ = some (.int .i64 (gS 3 2 ap 0)) ∧ w'.cell? (adr worldsA (Int.toNat (gS 3 2 ap 0))) = some (.int .i64 (gI worlds (gS 3 2 ap 0))) ∧ True) ⟨(St.cell (i := 1) hS48 rfl rfl _ (Ext.refl _)), (St.cell (i := 0) hS48 rfl rfl _ (Ext.refl _)), (RdS.elt (St.rdR (i := 2) hS48 rfl) (by omega) (by omega) _ (Ext.refl _)), (RdS.elt (St.rdR (i := 5) hS48 rfl) (by omega) (by omega) _ (Ext.refl _)), (St.cell (i := 0) hS48 rfl rfl _ (Ext.refl _)), (RdS.elt (St.rdR (i := 2) hS48 rfl) (by omega) (by omega) _ (Ext.refl _)), trivial⟩ (y_load (fun _ => by kernel_rfl) rfl (fun _ h => h.2.2.2.2.1)) rfl rfl (by kernel_rfl) (by kernel_rfl) (by kernel_rfl) (by kernel_rfl) rfl rfl (fun _ _ _ h => h) ?_; intro a73 hE74; clear hE72
   refine d_pure (fun _ h => h) (v := .pointer (some (adr worldsA (Int.toNat (gS 3 2 ap 0))))) 13 rfl hE74 (y_idx (by kernel_rfl) (fun _ => by kernel_rfl) rfl rfl (RdS.isS (m := gS 3 2 ap 0) (St.rdR (i := 2) hS48 rfl) (by omega) (by omega)) (by omega) (by omega) (Nat.mul_one _).symm) rfl (by kernel_rfl) (by kernel_rfl) (by kernel_rfl) rfl rfl (fun _ _ _ h => h) ?_; intro a75 hE76; clear hE74
   refine d_take (fun _ h => h) (fun _ _ h k => h k) (v := .int .i64 (gI worlds (gS 3 2 ap 0))) 14 rfl hE76 (S := fun w' => w'.cell? ⟨b5, 1, none⟩ = some (.slice mp1A mp1.length mp1C) ∧ w'.cell? ⟨b20, 1, none⟩ = some (.int .i64 (gS 3 1 ap 0)) ∧ w'.cell? (adr worldsA (Int.toNat (gS 3 1 ap 0))) = some (.int .i64 (gI worlds (gS 3 1 ap 0))) ∧ w'.cell? (adr mp1A (Int.toNat (gI worlds (gS 3 1 ap 0)))) = some (.int .i64 (gI mp1 (gI worlds (gS 3 1 ap 0)))) ∧ w'.cell? ⟨b20, 2, none⟩ = some (.int .i64 (gS 3 2 ap 0)) ∧ w'.cell? (adr worldsA (Int.toNat (gS 3 2 ap 0))) = some (.int .i64 (gI worlds (gS 3 2 ap 0))) ∧ True) ⟨(St.cell (i := 1) hS48 rfl rfl _ (Ext.refl _)), (St.cell (i := 0) hS48 rfl rfl _ (Ext.refl _)), (RdS.elt (St.rdR (i := 2) hS48 rfl) (by omega) (by omega) _ (Ext.refl _)), (RdS.elt (St.rdR (i := 5) hS48 rfl) (by omega) (by omega) _ (Ext.refl _)), (St.cell (i := 0) hS48 rfl rfl _ (Ext.refl _)), (RdS.elt (St.rdR (i := 2) hS48 rfl) (by omega) (by omega) _ (Ext.refl _)), trivial⟩ (y_load (fun _ => by kernel_rfl) rfl (fun _ h => h.2.2.2.2.2.1)) rfl rfl (by kernel_rfl) (by kernel_rfl) (by kernel_rfl) (by kernel_rfl) rfl rfl (fun _ _ _ h => h) ?_; intro a77 hE78; clear hE76
   refine d_only 15 (by kernel_rfl) rfl hE78 rfl (l_call (f := 179) (argv := [.int .i64 (gI mp1 (gI worlds (gS 3 1 ap 0))), .int .i64 (gI worlds (gS 3 2 ap 0))]) hE78 (fun _ => cf_l01Bit _ _) rfl rfl (c_l01Bit (gI mp1 (gI worlds (gS 3 1 ap 0))) (gI worlds (gS 3 2 ap 0)) w46 (by omega) (by omega)) ?_)
   rintro _ _ ⟨rfl, rfl⟩ a81 hE82; clear hE78
   refine ⟨fun h => Bool.noConfusion (h.symm.trans (show exm _ _ _ = true by kernel_rfl)), ?_⟩
   refine d_pure (fun _ h => h) (v := .bool (F_l01Bit (gI mp1 (gI worlds (gS 3 1 ap 0))) (gI worlds (gS 3 2 ap 0)))) 16 rfl hE82 (y_assign rfl) rfl (by kernel_rfl) (by kernel_rfl) (by kernel_rfl) rfl rfl (fun _ _ _ h => h) ?_; intro a85 hE86; clear hE82
   refine d_done (by kernel_rfl) ?_
   have hE87 := hE86.sub (L' := [(6, .bool (F_l01Bit (gI mp1 (gI worlds (gS 3 1 ap 0))) (gI worlds (gS 3 2 ap 0))))]) ⟨rfl, trivial⟩; clear hE86
   refine p_tn ?_
   refine wp_ret ?_
   refine p_br ?_
   refine p_tr ?_
   have hF : F_l10Holds_b self mp0 mp1 mp2 ap worlds = F_l01Bit (gI mp1 (gI worlds (gS 3 1 ap 0))) (gI worlds (gS 3 2 ap 0)) := by unfold F_l10Holds_b; (first | (rw [ht43]; first | done | rfl) | (exfalso; omega))
   refine c_ret1 hE87 rfl rfl ?_
   exact ⟨(by rw [hF]; first | done | (dsimp only; done) | rfl), hS48.ext⟩
  ·
   have hp88 := of_decide_eq_false ht43
   have hE89 := hE42; rw [ht43] at hE89; clear hE42
   refine c_seq ?_
   refine c_reg ?_
   refine q_step (v := .bool (decide ((gS 3 0 ap 0) = 1))) hE89 (y_eql rfl rfl) rfl rfl rfl ?_; intro a90 hE91; clear hE89
   refine q_step (v := .bool (decide ((gS 3 0 ap 0) = 1))) hE91 (y_assign rfl) rfl rfl rfl ?_; intro a92 hE93; clear hE91
   refine c_nil ?_
   have hE94 := hE93.sub (L' := [(1, .slice apA ((ap).length / 3 : Nat) apC), (2, .slice worldsA worlds.length worldsC), (3, .pointer (some ⟨b5, 0, none⟩)), (7, .pointer (some ⟨b20, 0, none⟩)), (16, .int .i64 (gS 3 0 ap 0)), (35, .bool (decide ((gS 3 0 ap 0) = 1)))]) ⟨rfl, rfl, rfl, rfl, rfl, rfl, trivial⟩; clear hE93
   refine p_tn ?_
   refine c_cond hE94 rfl (fun ht95 => ?_) (fun ht95 => ?_)
   ·
    have hp96 := of_decide_eq_true ht95
    have hE97 := hE94; rw [ht95] at hE97; clear hE94
    refine c_seq ?_
    refine d_start (fun w w' => (fun w' => w'.cell? ⟨b20, 1, none⟩ = some (.int .i64 (gS 3 1 ap 0)) ∧ w'.cell? (adr worldsA (Int.toNat (gS 3 1 ap 0))) = some (.int .i64 (gI worlds (gS 3 1 ap 0))) ∧ w'.cell? ⟨b20, 2, none⟩ = some (.int .i64 (gS 3 2 ap 0)) ∧ w'.cell? (adr worldsA (Int.toNat (gS 3 2 ap 0))) = some (.int .i64 (gI worlds (gS 3 2 ap 0))) ∧ True) w → (fun w' => w'.cell? ⟨b20, 1, none⟩ = some (.int .i64 (gS 3 1 ap 0)) ∧ w'.cell? (adr worldsA (Int.toNat (gS 3 1 ap 0))) = some (.int .i64 (gI worlds (gS 3 1 ap 0))) ∧ w'.cell? ⟨b20, 2, none⟩ = some (.int .i64 (gS 3 2 ap 0)) ∧ w'.cell? (adr worldsA (Int.toNat (gS 3 2 ap 0))) = some (.int .i64 (gI worlds (gS 3 2 ap 0))) ∧ True) w') [2, 4, 7, 9] 12 (by kernel_rfl) rfl ?_
    intro w98 he99; have hS100 := St.go hS30 he99; clear hS30
    refine d_pure (fun _ h => h) (v := .slice worldsA worlds.length worldsC) 0 rfl hE97 (y_move rfl) rfl (by kernel_rfl) (by kernel_rfl) (by kernel_rfl) rfl rfl (fun _ _ _ h => h) ?_; intro a101 hE102; clear hE97
    refine d_pure (fun _ h => h) (v := .pointer (some ⟨b20, 1, none⟩)) 1 rfl hE102 (y_field rfl (fun _ => by kernel_rfl)) rfl (by kernel_rfl) (by kernel_rfl) (by kernel_rfl) rfl rfl (fun _ _ _ h => h) ?_; intro a103 hE104; clear hE102
    refine d_take (fun _ h => h) (fun _ _ h k => h k) (v := .int .i64 (gS 3 1 ap 0)) 2 rfl hE104 (S := fun w' => w'.cell? ⟨b20, 1, none⟩ = some (.int .i64 (gS 3 1 ap 0)) ∧ w'.cell? (adr worldsA (Int.toNat (gS 3 1 ap 0))) = some (.int .i64 (gI worlds (gS 3 1 ap 0))) ∧ w'.cell? ⟨b20, 2, none⟩ = some (.int .i64 (gS 3 2 ap 0)) ∧ w'.cell? (adr worldsA (Int.toNat (gS 3 2 ap 0))) = some (.int .i64 (gI worlds (gS 3 2 ap 0))) ∧ True) ⟨(St.cell (i := 0) hS100 rfl rfl _ (Ext.refl _)), (RdS.elt (St.rdR (i := 2) hS100 rfl) (by omega) (by omega) _ (Ext.refl _)), (St.cell (i := 0) hS100 rfl rfl _ (Ext.refl _)), (RdS.elt (St.rdR (i := 2) hS100 rfl) (by omega) (by omega) _ (Ext.refl _)), trivial⟩ (y_load (fun _ => by kernel_rfl) rfl (fun _ h => h.1)) rfl rfl (by kernel_rfl) (by kernel_rfl) (by kernel_rfl) (by kernel_rfl) rfl rfl (fun _ _ _ h => h) ?_; intro a105 hE106; clear hE104
    refine d_pure (fun _ h => h) (v := .pointer (some (adr worldsA (Int.toNat (gS 3 1 ap 0))))) 3 rfl hE106 (y_idx (by kernel_rfl) (fun _ => by kernel_rfl) rfl rfl (RdS.isS (m := gS 3 1 ap 0) (St.rdR (i := 2) hS100 rfl) (by omega) (by omega)) (by omega) (by omega) (Nat.mul_one _).symm) rfl (by kernel_rfl) (by kernel_rfl) (by kernel_rfl) rfl rfl (fun _ _ _ h => h) ?_; intro a107 hE108; clear hE106
    refine d_take (fun _ h => h) (fun _ _ h k => h k) (v := .int .i64 (gI worlds (gS 3 1 ap 0))) 4 rfl hE108 (S := fun w' => w'.cell? ⟨b20, 1, none⟩ = some (.int .i64 (gS 3 1 ap 0)) ∧ w'.cell? (adr worldsA (Int.toNat (gS 3 1 ap 0))) = some (.int .i64 (gI worlds (gS 3 1 ap 0))) ∧ w'.cell? ⟨b20, 2, none⟩ = some (.int .i64 (gS 3 2 ap 0)) ∧ w'.cell? (adr worldsA (Int.toNat (gS 3 2 ap 0))) = some (.int .i64 (gI worlds (gS 3 2 ap 0))) ∧ True) ⟨(St.cell (i := 0) hS100 rfl rfl _ (Ext.refl _)), (RdS.elt (St.rdR (i := 2) hS100 rfl) (by omega) (by omega) _ (Ext.refl _)), (St.cell (i := 0) hS100 rfl rfl _ (Ext.refl _)), (RdS.elt (St.rdR (i := 2) hS100 rfl) (by omega) (by omega) _ (Ext.refl _)), trivial⟩ (y_load (fun _ => by kernel_rfl) rfl (fun _ h => h.2.1)) rfl rfl (by kernel_rfl) (by kernel_rfl) (by kernel_rfl) (by kernel_rfl) rfl rfl (fun _ _ _ h => h) ?_; intro a109 hE110; clear hE108
    refine d_pure (fun _ h => h) (v := .slice worldsA worlds.length worldsC) 5 rfl hE110 (y_move rfl) rfl (by kernel_rfl) (by kernel_rfl) (by kernel_rfl) rfl rfl (fun _ _ _ h => h) ?_; intro a111 hE112; clear hE110
    refine d_pure (fun _ h => h) (v := .pointer (some ⟨b20, 2, none⟩)) 6 rfl hE112 (y_field rfl (fun _ => by kernel_rfl)) rfl (by kernel_rfl) (by kernel_rfl) (by kernel_rfl) rfl rfl (fun _ _ _ h => h) ?_; intro a113 hE114; clear hE112
    refine d_take (fun _ h => h) (fun _ _ h k => h k) (v := .int .i64 (gS 3 2 ap 0)) 7 rfl hE114 (S := fun w' => w'.cell? ⟨b20, 1, none⟩ = some (.int .i64 (gS 3 1 ap 0)) ∧ w'.cell? (adr worldsA (Int.toNat (gS 3 1 ap 0))) = some (.int .i64 (gI worlds (gS 3 1 ap 0))) ∧ w'.cell? ⟨b20, 2, none⟩ = some (.int .i64 (gS 3 2 ap 0)) ∧ w'.cell? (adr worldsA (Int.toNat (gS 3 2 ap 0))) = some (.int .i64 (gI worlds (gS 3 2 ap 0))) ∧ True) ⟨(St.cell (i := 0) hS100 rfl rfl _ (Ext.refl _)), (RdS.elt (St.rdR (i := 2) hS100 rfl) (by omega) (by omega) _ (Ext.refl _)), (St.cell (i := 0) hS100 rfl rfl _ (Ext.refl _)), (RdS.elt (St.rdR (i := 2) hS100 rfl) (by omega) (by omega) _ (Ext.refl _)), trivial⟩ (y_load (fun _ => by kernel_rfl) rfl (fun _ h => h.2.2.1)) rfl rfl (by kernel_rfl) (by kernel_rfl) (by kernel_rfl) (by kernel_rfl) rfl rfl (fun _ _ _ h => h) ?_; intro a115 hE116; clear hE114
    refine d_pure (fun _ h => h) (v := .pointer (some (adr worldsA (Int.toNat (gS 3 2 ap 0))))) 8 rfl hE116 (y_idx (by kernel_rfl) (fun _ => by kernel_rfl) rfl rfl (RdS.isS (m := gS 3 2 ap 0) (St.rdR (i := 2) hS100 rfl) (by omega) (by omega)) (by omega) (by omega) (Nat.mul_one _).symm) rfl (by kernel_rfl) (by kernel_rfl) (by kernel_rfl) rfl rfl (fun _ _ _ h => h) ?_; intro a117 hE118; clear hE116
    refine d_take (fun _ h => h) (fun _ _ h k => h k) (v := .int .i64 (gI worlds (gS 3 2 ap 0))) 9 rfl hE118 (S := fun w' => w'.cell? ⟨b20, 1, none⟩ = some (.int .i64 (gS 3 1 ap 0)) ∧ w'.cell? (adr worldsA (Int.toNat (gS 3 1 ap 0))) = some (.int .i64 (gI worlds (gS 3 1 ap 0))) ∧ w'.cell? ⟨b20, 2, none⟩ = some (.int .i64 (gS 3 2 ap 0)) ∧ w'.cell? (adr worldsA (Int.toNat (gS 3 2 ap 0))) = some (.int .i64 (gI worlds (gS 3 2 ap 0))) ∧ True) ⟨(St.cell (i := 0) hS100 rfl rfl _ (Ext.refl _)), (RdS.elt (St.rdR (i := 2) hS100 rfl) (by omega) (by omega) _ (Ext.refl _)), (St.cell (i := 0) hS100 rfl rfl _ (Ext.refl _)), (RdS.elt (St.rdR (i := 2) hS100 rfl) (by omega) (by omega) _ (Ext.refl _)), trivial⟩ (y_load (fun _ => by kernel_rfl) rfl (fun _ h => h.2.2.2.1)) rfl rfl (by kernel_rfl) (by kernel_rfl) (by kernel_rfl) (by kernel_rfl) rfl rfl (fun _ _ _ h => h) ?_; intro a119 hE120; clear hE118
    refine d_pure (fun _ h => h) (v := .bool (decide ((gI worlds (gS 3 1 ap 0)) = (gI worlds (gS 3 2 ap 0))))) 10 rfl hE120 (y_eql rfl rfl) rfl (by kernel_rfl) (by kernel_rfl) (by kernel_rfl) rfl rfl (fun _ _ _ h => h) ?_; intro a121 hE122; clear hE120
    refine d_pure (fun _ h => h) (v := .bool (decide ((gI worlds (gS 3 1 ap 0)) = (gI worlds (gS 3 2 ap 0))))) 11 rfl hE122 (y_assign rfl) rfl (by kernel_rfl) (by kernel_rfl) (by kernel_rfl) rfl rfl (fun _ _ _ h => h) ?_; intro a123 hE124; clear hE122
    refine d_done (by kernel_rfl) ?_
    have hE125 := hE124.sub (L' := [(6, .bool (decide ((gI worlds (gS 3 1 ap 0)) = (gI worlds (gS 3 2 ap 0)))))]) ⟨rfl, trivial⟩; clear hE124
    refine p_tn ?_
    refine wp_ret ?_
    refine p_br ?_
    refine p_tr ?_
    have hF : F_l10Holds_b self mp0 mp1 mp2 ap worlds = decide ((gI worlds (gS 3 1 ap 0)) = (gI worlds (gS 3 2 ap 0))) := by unfold F_l10Holds_b; (first | (rw [ht95, ht43]; first | done | rfl) | (exfalso; omega))
    refine c_ret1 hE125 rfl rfl ?_
    exact ⟨(by rw [hF]; first | done | (dsimp only; done) | rfl), hS100.ext⟩
   ·
    have hp126 := of_decide_eq_false ht95
    have hE127 := hE94; rw [ht95] at hE127; clear hE94
    refine c_seq ?_
    refine c_reg ?_
    refine q_step (v := .bool (decide ((gS 3 0 ap 0) = 2))) hE127 (y_eql rfl rfl) rfl rfl rfl ?_; intro a128 hE129; clear hE127
    refine q_step (v := .bool (decide ((gS 3 0 ap 0) = 2))) hE129 (y_assign rfl) rfl rfl rfl ?_; intro a130 hE131; clear hE129
    refine c_nil ?_
    have hE132 := hE131.sub (L' := [(1, .slice apA ((ap).length / 3 : Nat) apC), (2, .slice worldsA worlds.length worldsC), (3, .pointer (some ⟨b5, 0, none⟩)), (7, .pointer (some ⟨b20, 0, none⟩)), (16, .int .i64 (gS 3 0 ap 0)), (48, .bool (decide ((gS 3 0 ap 0) = 2)))]) ⟨rfl, rfl, rfl, rfl, rfl, rfl, trivial⟩; clear hE131
    refine p_tn ?_
    refine c_cond hE132 rfl (fun ht133 => ?_) (fun ht133 => ?_)
    ·
     have hp134 := of_decide_eq_true ht133
     have hE135 := hE132; rw [ht133] at hE135; clear hE132
     refine c_seq ?_
     refine d_start (fun w w' => (fun w' => w'.cell? ⟨b5, 2, none⟩ = some (.slice mp2A mp2.length mp2C) ∧ w'.cell? ⟨b20, 1, none⟩ = some (.int .i64 (gS 3 1 ap 0)) ∧ w'.cell? (adr mp2A (Int.toNat (gS 3 1 ap 0))) = some (.int .i64 (gI mp2 (gS 3 1 ap 0))) ∧ w'.cell? ⟨b20, 2, none⟩ = some (.int .i64 (gS 3 2 ap 0)) ∧ w'.cell? (adr worldsA (Int.toNat (gS 3 2 ap 0))) = some (.int .i64 (gI worlds (gS 3 2 ap 0))) ∧ True) w → (fun w' => w'.cell? ⟨b5, 2, none⟩ = some (.slice mp2A mp2.length mp2C) ∧ w'.cell? ⟨b20, 1, none⟩ = some (.int .i64 (gS 3 1 ap 0)) ∧ w'.cell? (adr mp2A (Int.toNat (gS 3 1 ap 0))) = some (.int .i64 (gI mp2 (gS 3 1 ap 0))) ∧ w'.cell? ⟨b20, 2, none⟩ = some (.int .i64 (gS 3 2 ap 0)) ∧ w'.cell? (adr worldsA (Int.toNat (gS 3 2 ap 0))) = some (.int .i64 (gI worlds (gS 3 2 ap 0))) ∧ True) w') [1, 3, 5, 8, 10] 13 (by kernel_rfl) rfl ?_
     intro w136 he137; have hS138 := St.go hS30 he137; clear hS30
     refine d_pure (fun _ h => h) (v := .pointer (some ⟨b5, 2, none⟩)) 0 rfl hE135 (y_field rfl (fun _ => by kernel_rfl)) rfl (by kernel_rfl) (by kernel_rfl) (by kernel_rfl) rfl rfl (fun _ _ _ h => h) ?_; intro a139 hE140; clear hE135
     refine d_take (fun _ h => h) (fun _ _ h k => h k) (v := .slice mp2A mp2.length mp2C) 1 rfl hE140 (S := fun w' => w'.cell? ⟨b5, 2, none⟩ = some (.slice mp2A mp2.length mp2C) ∧ w'.cell? ⟨b20, 1, none⟩ = some (.int .i64 (gS 3 1 ap 0)) ∧ w'.cell? (adr mp2A (Int.toNat (gS 3 1 ap 0))) = some (.int .i64 (gI mp2 (gS 3 1 ap 0))) ∧ w'.cell? ⟨b20, 2, none⟩ = some (.int .i64 (gS 3 2 ap 0)) ∧ w'.cell? (adr worldsA (Int.toNat (gS 3 2 ap 0))) = some (.int .i64 (gI worlds (gS 3 2 ap 0))) ∧ True) ⟨(St.cell (i := 1) hS138 rfl rfl _ (Ext.refl _)), (St.cell (i := 0) hS138 rfl rfl _ (Ext.refl _)), (RdS.elt (St.rdR (i := 4) hS138 rfl) (by omega) (by omega) _ (Ext.refl _)), (St.cell (i := 0) hS138 rfl rfl _ (Ext.refl _)), (RdS.elt (St.rdR (i := 2) hS138 rfl) (by omega) (by omega) _ (Ext.refl _)), trivial⟩ (y_load (fun _ => by kernel_rfl) rfl (fun _ h => h.1)) rfl rfl (by kernel_rfl) (by kernel_rfl) (by kernel_rfl) (by kernel_rfl) rfl rfl (fun _ _ _ h => h) ?_; intro a141 hE142; clear hE140
     refine d_pure (fun _ h => h) (v := .pointer (some ⟨b20, 1, none⟩)) 2 rfl hE142 (y_field rfl (fun _ => by kernel_rfl)) rfl (by kernel_rfl) (by kernel_rfl) (by kernel_rfl) rfl rfl (fun _ _ _ h => h) ?_; intro a143 hE144; clear hE142
     refine d_take (fun _ h => h) (fun _ _ h k => h k) (v := .int .i64 (gS 3 1 ap 0)) 3 rfl hE144 (S := fun w' => w'.cell? ⟨b5, 2, none⟩ = some (.slice mp2A mp2.length mp2C) ∧ w'.cell? ⟨b20, 1, none⟩ = some (.int .i64 (gS 3 1 ap 0)) ∧ w'.cell? (adr mp2A (Int.toNat (gS 3 1 ap 0))) = some (.int .i64 (gI mp2 (gS 3 1 ap 0))) ∧ w'.cell? ⟨b20, 2, none⟩ = some (.int .i64 (gS 3 2 ap 0)) ∧ w'.cell? (adr worldsA (Int.toNat (gS 3 2 ap 0))) = some (.int .i64 (gI worlds (gS 3 2 ap 0))) ∧ True) ⟨(St.cell (i := 1) hS138 rfl rfl _ (Ext.refl _)), (St.cell (i := 0) hS138 rfl rfl _ (Ext.refl _)), (RdS.elt (St.rdR (i := 4) hS138 rfl) (by omega) (by omega) _ (Ext.refl _)), (St.cell (i := 0) hS138 rfl rfl _ (Ext.refl _)), (RdS.elt (St.rdR (i := 2) hS138 rfl) (by omega) (by omega) _ (Ext.refl _)), trivial⟩ (y_load (fun _ => by kernel_rfl) rfl (fun _ h => h.2.1)) rfl rfl (by kernel_rfl) (by kernel_rfl) (by kernel_rfl) (by kernel_rfl) rfl rfl (fun _ _ _ h => h) ?_; intro a145 hE146; clear hE144
     refine d_pure (fun _ h => h) (v := .pointer (some (adr mp2A (Int.toNat (gS 3 1 ap 0))))) 4 rfl hE146 (y_idx (by kernel_rfl) (fun _ => by kernel_rfl) rfl rfl (RdS.isS (m := gS 3 1 ap 0) (St.rdR (i := 4) hS138 rfl) (by omega) (by omega)) (by omega) (by omega) (Nat.mul_one _).symm) rfl (by kernel_rfl) (by kernel_rfl) (by kernel_rfl) rfl rfl (fun _ _ _ h => h) ?_; intro a147 hE148; clear hE146
     refine d_take (fun _ h => h) (fun _ _ h k => h k) (v := .int .i64 (gI mp2 (gS 3 1 ap 0))) 5 rfl hE148 (S := fun w' => w'.cell? ⟨b5, 2, none⟩ = some (.slice mp2A mp2.length mp2C) ∧ w'.cell? ⟨b20, 1, none⟩ = some (.int .i64 (gS 3 1 ap 0)) ∧ w'.cell? (adr mp2A (Int.toNat (gS 3 1 ap 0))) = some (.int .i64 (gI mp2 (gS 3 1 ap 0))) ∧ w'.cell? ⟨b20, 2, none⟩ = some (.int .i64 (gS 3 2 ap 0)) ∧ w'.cell? (adr worldsA (Int.toNat (gS 3 2 ap 0))) = some (.int .i64 (gI worlds (gS 3 2 ap 0))) ∧ True) ⟨(St.cell (i := 1) hS138 rfl rfl _ (Ext.refl _)), (St.cell (i := 0) hS138 rfl rfl _ (Ext.refl _)), (RdS.elt (St.rdR (i := 4) hS138 rfl) (by omega) (by omega) _ (Ext.refl _)), (St.cell (i := 0) hS138 rfl rfl _ (Ext.refl _)), (RdS.elt (St.rdR (i := 2) hS138 rfl) (by omega) (by omega) _ (Ext.refl _)), trivial⟩ (y_load (fun _ => by kernel_rfl) rfl (fun _ h => h.2.2.1)) rfl rfl (by kernel_rfl) (by kernel_rfl) (by kernel_rfl) (by kernel_rfl) rfl rfl (fun _ _ _ h => h) ?_; intro a149 hE150; clear hE148
     refine d_pure (fun _ h => h) (v := .slice worldsA worlds.length worldsC) 6 rfl hE150 (y_move rfl) rfl (by kernel_rfl) (by kernel_rfl) (by kernel_rfl) rfl rfl (fun _ _ _ h => h) ?_; intro a151 hE152; clear hE150
     refine d_pure (fun _ h => h) (v := .pointer (some ⟨b20, 2, none⟩)) 7 rfl hE152 (y_field rfl (fun _ => by kernel_rfl)) rfl (by kernel_rfl) (by kernel_rfl) (by kernel_rfl) rfl rfl (fun _ _ _ h => h) ?_; intro a153 hE154; clear hE152
     refine d_take (fun _ h => h) (fun _ _ h k => h k) (v := .int .i64 (gS 3 2 ap 0)) 8 rfl hE154 (S := fun w' => w'.cell? ⟨b5, 2, none⟩ = some (.slice mp2A mp2.length mp2C) ∧ w'.cell? ⟨b20, 1, none⟩ = some (.int .i64 (gS 3 1 ap 0)) ∧ w'.cell? (adr mp2A (Int.toNat (gS 3 1 ap 0))) = some (.int .i64 (gI mp2 (gS 3 1 ap 0))) ∧ w'.cell? ⟨b20, 2, none⟩ = some (.int .i64 (gS 3 2 ap 0)) ∧ w'.cell? (adr worldsA (Int.toNat (gS 3 2 ap 0))) = some (.int .i64 (gI worlds (gS 3 2 ap 0))) ∧ True) ⟨(St.cell (i := 1) hS138 rfl rfl _ (Ext.refl _)), (St.cell (i := 0) hS138 rfl rfl _ (Ext.refl _)), (RdS.elt (St.rdR (i := 4) hS138 rfl) (by omega) (by omega) _ (Ext.refl _)), (St.cell (i := 0) hS138 rfl rfl _ (Ext.refl _)), (RdS.elt (St.rdR (i := 2) hS138 rfl) (by omega) (by omega) _ (Ext.refl _)), trivial⟩ (y_load (fun _ => by kernel_rfl) rfl (fun _ h => h.2.2.2.1)) rfl rfl (by kernel_rfl) (by kernel_rfl) (by kernel_rfl) (by kernel_rfl) rfl rfl (fun _ _ _ h => h) ?_; intro a155 hE156; clear hE154
     refine d_pure (fun _ h => h) (v := .pointer (some (adr worldsA (Int.toNat (gS 3 2 ap 0))))) 9 rfl hE156 (y_idx (by kernel_rfl) (fun _ => by kernel_rfl) rfl rfl (RdS.isS (m := gS 3 2 ap 0) (St.rdR (i := 2) hS138 rfl) (by omega) (by omega)) (by omega) (by omega) (Nat.mul_one _).symm) rfl (by kernel_rfl) (by kernel_rfl) (by kernel_rfl) rfl rfl (fun _ _ _ h => h) ?_; intro a157 hE158; clear hE156
     refine d_take (fun _ h => h) (fun _ _ h k => h k) (v := .int .i64 (gI worlds (gS 3 2 ap 0))) 10 rfl hE158 (S := fun w' => w'.cell? ⟨b5, 2, none⟩ = some (.slice mp2A mp2.length mp2C) ∧ w'.cell? ⟨b20, 1, none⟩ = some (.int .i64 (gS 3 1 ap 0)) ∧ w'.cell? (adr mp2A (Int.toNat (gS 3 1 ap 0))) = some (.int .i64 (gI mp2 (gS 3 1 ap 0))) ∧ w'.cell? ⟨b20, 2, none⟩ = some (.int .i64 (gS 3 2 ap 0)) ∧ w'.cell? (adr worldsA (Int.toNat (gS 3 2 ap 0))) = some (.int .i64 (gI worlds (gS 3 2 ap 0))) ∧ True) ⟨(St.cell (i := 1) hS138 rfl rfl _ (Ext.refl _)), (St.cell (i := 0) hS138 rfl rfl _ (Ext.refl _)), (RdS.elt (St.rdR (i := 4) hS138 rfl) (by omega) (by omega) _ (Ext.refl _)), (St.cell (i := 0) hS138 rfl rfl _ (Ext.refl _)), (RdS.elt (St.rdR (i := 2) hS138 rfl) (by omega) (by omega) _ (Ext.refl _)), trivial⟩ (y_load (fun _ => by kernel_rfl) rfl (fun _ h => h.2.2.2.2.1)) rfl rfl (by kernel_rfl) (by kernel_rfl) (by kernel_rfl) (by kernel_rfl) rfl rfl (fun _ _ _ h => h) ?_; intro a159 hE160; clear hE158
     refine d_only 11 (by kernel_rfl) rfl hE160 rfl (l_call (f := 179) (argv := [.int .i64 (gI mp2 (gS 3 1 ap 0)), .int .i64 (gI worlds (gS 3 2 ap 0))]) hE160 (fun _ => cf_l01Bit _ _) rfl rfl (c_l01Bit (gI mp2 (gS 3 1 ap 0)) (gI worlds (gS 3 2 ap 0)) w136 (by omega) (by omega)) ?_)
     rintro _ _ ⟨rfl, rfl⟩ a163 hE164; clear hE160
     refine ⟨fun h => Bool.noConfusion (h.symm.trans (show exm _ _ _ = true by kernel_rfl)), ?_⟩
     refine d_pure (fun _ h => h) (v := .bool (F_l01Bit (gI mp2 (gS 3 1 ap 0)) (gI worlds (gS 3 2 ap 0)))) 12 rfl hE164 (y_assign rfl) rfl (by kernel_rfl) (by kernel_rfl) (by kernel_rfl) rfl rfl (fun _ _ _ h => h) ?_; intro a167 hE168; clear hE164
     refine d_done (by kernel_rfl) ?_
     have hE169 := hE168.sub (L' := [(6, .bool (F_l01Bit (gI mp2 (gS 3 1 ap 0)) (gI worlds (gS 3 2 ap 0))))]) ⟨rfl, trivial⟩; clear hE168
     refine p_tn ?_
     refine wp_ret ?_
     refine p_br ?_
     refine p_tr ?_
     have hF : F_l10Holds_b self mp0 mp1 mp2 ap worlds = F_l01Bit (gI mp2 (gS 3 1 ap 0)) (gI worlds (gS 3 2 ap 0)) := by unfold F_l10Holds_b; (first | (rw [ht133, ht95, ht43]; first | done | rfl) | (exfalso; omega))
     refine c_ret1 hE169 rfl rfl ?_
     exact ⟨(by rw [hF]; first | done | (dsimp only; done) | rfl), hS138.ext⟩
    ·
     have hp170 := of_decide_eq_false ht133
     have hE171 := hE132; rw [ht133] at hE171; clear hE132
     refine c_seq ?_
     refine c_reg ?_
     refine q_step (v := .bool (decide ((gS 3 0 ap 0) = 3))) hE171 (y_eql rfl rfl) rfl rfl rfl ?_; intro a172 hE173; clear hE171
     refine q_step (v := .bool (decide ((gS 3 0 ap 0) = 3))) hE173 (y_assign rfl) rfl rfl rfl ?_; intro a174 hE175; clear hE173
     refine c_nil ?_
     have hE176 := hE175.sub (L' := [(1, .slice apA ((ap).length / 3 : Nat) apC), (2, .slice worldsA worlds.length worldsC), (3, .pointer (some ⟨b5, 0, none⟩)), (7, .pointer (some ⟨b20, 0, none⟩)), (16, .int .i64 (gS 3 0 ap 0)), (62, .bool (decide ((gS 3 0 ap 0) = 3)))]) ⟨rfl, rfl, rfl, rfl, rfl, rfl, trivial⟩; clear hE175
     refine p_tn ?_
     refine c_cond hE176 rfl (fun ht177 => ?_) (fun ht177 => ?_)
     ·
      have hp178 := of_decide_eq_true ht177
      have hE179 := hE176; rw [ht177] at hE179; clear hE176
      refine c_seq ?_
      refine c_reg ?_
      refine q_step (v := .bool false) hE179 (y_assign rfl) rfl rfl rfl ?_; intro a180 hE181; clear hE179
      refine c_nil ?_
      have hE182 := hE181.sub (L' := [(6, .bool false)]) ⟨rfl, trivial⟩; clear hE181
      refine p_tn ?_
      refine wp_ret ?_
      refine p_br ?_
      refine p_tr ?_
      have hF : F_l10Holds_b self mp0 mp1 mp2 ap worlds = false := by unfold F_l10Holds_b; (first | (rw [ht177, ht133, ht95, ht43]; first | done | rfl) | (exfalso; omega))
      refine c_ret1 hE182 rfl rfl ?_
      exact ⟨(by rw [hF]; first | done | (dsimp only; done) | rfl), hS30.ext⟩
     ·
      have hp183 := of_decide_eq_false ht177
      have hE184 := hE176; rw [ht177] at hE184; clear hE176
      refine c_seq ?_
      refine c_seq ?_
      refine c_reg ?_
      refine q_step (v := .bool (decide ((gS 3 0 ap 0) = 7))) hE184 (y_eql rfl rfl) rfl rfl rfl ?_; intro a185 hE186; clear hE184
      refine q_step (v := .bool (decide ((gS 3 0 ap 0) = 7))) hE186 (y_assign rfl) rfl rfl rfl ?_; intro a187 hE188; clear hE186
      refine c_nil ?_
      have hE189 := hE188.sub (L' := [(1, .slice apA ((ap).length / 3 : Nat) apC), (2, .slice worldsA worlds.length worldsC), (3, .pointer (some ⟨b5, 0, none⟩)), (7, .pointer (some ⟨b20, 0, none⟩)), (16, .int .i64 (gS 3 0 ap 0)), (64, .bool (decide ((gS 3 0 ap 0) = 7)))]) ⟨rfl, rfl, rfl, rfl, rfl, rfl, trivial⟩; clear hE188
      refine p_tn ?_
      refine c_cond hE189 rfl (fun ht190 => ?_) (fun ht190 => ?_)
      ·
       have hp191 := of_decide_eq_true ht190
       have hE192 := hE189; rw [ht190] at hE192; clear hE189
       refine wp_skip ?_
       refine p_tn ?_
       refine c_true hE192 rfl ?_
       refine c_seq ?_
       refine c_reg ?_
       refine q_step (v := .pointer (some ⟨b20, 0, none⟩)) hE192 (y_field rfl (fun _ => by kernel_rfl)) rfl rfl rfl ?_; intro a193 hE194; clear hE192
       refine q_step (v := .int .i64 (gS 3 0 ap 0)) hE194 (y_load (fun _ => by kernel_rfl) rfl (St.cell (i := 0) hS30 rfl rfl)) rfl rfl rfl ?_; intro a195 hE196; clear hE194
       refine q_step (v := .bool (decide ((gS 3 0 ap 0) = 7))) hE196 (y_eql rfl rfl) rfl rfl rfl ?_; intro a197 hE198; clear hE196
       refine q_step (v := .bool (decide ((gS 3 0 ap 0) = 7))) hE198 (y_assign rfl) rfl rfl rfl ?_; intro a199 hE200; clear hE198
       refine c_nil ?_
       have hE201 := hE200.sub (L' := [(1, .slice apA ((ap).length / 3 : Nat) apC), (2, .slice worldsA worlds.length worldsC), (3, .pointer (some ⟨b5, 0, none⟩)), (7, .pointer (some ⟨b20, 0, none⟩)), (8, .bool (decide ((gS 3 0 ap 0) = 7)))]) ⟨rfl, rfl, rfl, rfl, rfl, trivial⟩; clear hE200
       refine p_tn ?_
       refine c_seq ?_
       refine c_reg ?_
       refine q_step (v := .slice worldsA worlds.length worldsC) hE201 (y_move rfl) rfl rfl rfl ?_; intro a202 hE203; clear hE201
       refine l_step hE203 rfl (l_call (f := 180) (argv := [.slice worldsA worlds.length worldsC]) hE203 (fun _ => cf_l01Own _ _) rfl rfl (d_l01Own worldsA worlds.length worldsC worlds w27 (St.rdR (i := 2) hS30 rfl) (by omega)) ?_)
       rintro _ w205 ⟨b210, c211, rfl, ho212, he209⟩ a206 hE207; clear hE203
       have hS208 := St.own hS30 he209 ho212; clear hS30
       refine q_step (v := .slice b210 ((worlds).length) c211) hE207 (y_assign rfl) rfl rfl rfl ?_; intro a213 hE214; clear hE207
       refine c_nil ?_
       have hE215 := hE214.sub (L' := [(1, .slice apA ((ap).length / 3 : Nat) apC), (3, .pointer (some ⟨b5, 0, none⟩)), (7, .pointer (some ⟨b20, 0, none⟩)), (8, .bool (decide ((gS 3 0 ap 0) = 7))), (9, .slice b210 ((worlds).length) c211)]) ⟨rfl, rfl, rfl, rfl, rfl, trivial⟩; clear hE214
       refine p_tn ?_
       refine c_seq ?_
       refine c_seq ?_
       refine c_reg ?_
       refine q_step (v := .int .i64 0) hE215 (y_assign rfl) rfl rfl rfl ?_; intro a216 hE217; clear hE215
       refine c_nil ?_
       have hE218 := hE217.sub (L' := [(1, .slice apA ((ap).length / 3 : Nat) apC), (3, .pointer (some ⟨b5, 0, none⟩)), (7, .pointer (some ⟨b20, 0, none⟩)), (8, .bool (decide ((gS 3 0 ap 0) = 7))), (9, .slice b210 ((worlds).length) c211), (10, .int .i64 0)]) ⟨rfl, rfl, rfl, rfl, rfl, rfl, trivial⟩; clear hE217
       refine p_tn ?_
       refine c_cut1 (fun a' w' => isOk (F_l10Holds_L1 mp0 mp1 mp2 ap self (Int.toNat (mp0 - 0) + 1) 0 worlds) = true ∧ (0 ≤ ((okD (F_l10Holds_L1 mp0 mp1 mp2 ap self (Int.toNat (mp0 - 0) + 1) 0 worlds)).1)) ∧ (((okD (F_l10Holds_L1 mp0 mp1 mp2 ap self (Int.toNat (mp0 - 0) + 1) 0 worlds)).2).length = 10) ∧ (∀ x : Nat, ¬ (x : Int) = gS 3 1 ap 0 → gI ((okD (F_l10Holds_L1 mp0 mp1 mp2 ap self (Int.toNat (mp0 - 0) + 1) 0 worlds)).2) (x : Int) = gI worlds (x : Int)) ∧ E a' 127 [(1, .slice apA ((ap).length / 3 : Nat) apC), (3, .pointer (some ⟨b5, 0, none⟩)), (7, .pointer (some ⟨b20, 0, none⟩)), (8, .bool (decide ((gS 3 0 ap 0) = 7))), (9, .slice b210 ((worlds).length) c211), (10, .int .i64 ((okD (F_l10Holds_L1 mp0 mp1 mp2 ap self (Int.toNat (mp0 - 0) + 1) 0 worlds)).1))] ∧ St w w' [.own 2 1 b210 ((worlds).length) c211 ((okD (F_l10Holds_L1 mp0 mp1 mp2 ap self (Int.toNat (mp0 - 0) + 1) 0 worlds)).2), .blk b20 #[.int .i64 (gS 3 0 ap 0), .int .i64 (gS 3 1 ap 0), .int .i64 (gS 3 2 ap 0)] 115, .blk b5 #[.int .i64 mp0, .slice mp1A mp1.length mp1C, .slice mp2A mp2.length mp2C] 69, .rd 1 worldsA worlds.length worldsC worlds, .rd 3 apA ((ap).length / 3 : Nat) apC ap, .rd 1 mp2A mp2.length mp2C mp2, .rd 1 mp1A mp1.length mp1C mp1]) ?_ ?_
       ·
        refine wp_block ?_
        refine c_loop (fun r a' w' => ∃ w10 : Int, ∃ next9 : List Int, F_l10Holds_L1 mp0 mp1 mp2 ap self r w10 next9 = F_l10Holds_L1 mp0 mp1 mp2 ap self (Int.toNat (mp0 - 0) + 1) 0 worlds ∧ Int.toNat (mp0 - w10) < r ∧ (0 ≤ w10) ∧ (next9.length = 10) ∧ (∀ x : Nat, ¬ (x : Int) = gS 3 1 ap 0 → gI next9 (x : Int) = gI worlds (x : Int)) ∧ E a' 127 [(1, .slice apA ((ap).length / 3 : Nat) apC), (3, .pointer (some ⟨b5, 0, none⟩)), (7, .pointer (some ⟨b20, 0, none⟩)), (8, .bool (decide ((gS 3 0 ap 0) = 7))), (9, .slice b210 ((worlds).length) c211), (10, .int .i64 w10)] ∧ St w w' [.own 2 1 b210 ((worlds).length) c211 next9, .blk b20 #[.int .i64 (gS 3 0 ap 0), .int .i64 (gS 3 1 ap 0), .int .i64 (gS 3 2 ap 0)] 115, .blk b5 #[.int .i64 mp0, .slice mp1A mp1.length mp1C, .slice mp2A mp2.length mp2C] 69, .rd 1 worldsA worlds.length worldsC worlds, .rd 3 apA ((ap).length / 3 : Nat) apC ap, .rd 1 mp2A mp2.length mp2C mp2, .rd 1 mp1A mp1.length mp1C mp1]) (r := (Int.toNat (mp0 - 0) + 1)) ?_ ?_
        · exact ⟨0, worlds, rfl, Nat.lt_succ_self _, (by first | omega | (simp only [sS_len, sL_len]; omega) | (simp only [List.length_replicate, sI_len]; omega) | (simp only [List.length_append, List.length_cons, List.length_nil, sI_len, cond_true, cond_false]; omega) | (simp only [List.length_append, List.length_cons, List.length_nil, sI_len, cond_eq_ite, apply_ite List.length]; split <;> simp only [List.length_append, List.length_cons, List.length_nil, sI_len] <;> omega) | grind), hw, (fun _ _ => rfl), (hE218.sub (L' := [(1, .slice apA ((ap).length / 3 : Nat) apC), (3, .pointer (some ⟨b5, 0, none⟩)), (7, .pointer (some ⟨b20, 0, none⟩)), (8, .bool (decide ((gS 3 0 ap 0) = 7))), (9, .slice b210 ((worlds).length) c211), (10, .int .i64 0)]) ⟨rfl, rfl, rfl, rfl, rfl, rfl, trivial⟩), (St.pick (Γ' := [.own 2 1 b210 ((worlds).length) c211 worlds, .blk b20 #[.int .i64 (gS 3 0 ap 0), .int .i64 (gS 3 1 ap 0), .int .i64 (gS 3 2 ap 0)] 115, .blk b5 #[.int .i64 mp0, .slice mp1A mp1.length mp1C, .slice mp2A mp2.length mp2C] 69, .rd 1 worldsA worlds.length worldsC worlds, .rd 3 apA ((ap).length / 3 : Nat) apC ap, .rd 1 mp2A mp2.length mp2C mp2, .rd 1 mp1A mp1.length mp1C mp1]) hS208 [0, 1, 2, 3, 4, 5, 6] (by decide) rfl)⟩
        ·
         clear hE218 hS208
         rintro r229 a220 w221 ⟨w10, next9, hT224, hr225, hi226, hi227, hi228, hE222, hS223⟩
         obtain ⟨r229, rfl⟩ : ∃ r', r229 = r' + 1 := ⟨r229 - 1, by omega⟩
         refine c_seq ?_
         refine c_seq ?_
         refine c_reg ?_
         refine q_step (v := .int .i64 w10) hE222 (y_move rfl) rfl rfl rfl ?_; intro a230 hE231; clear hE222
         refine q_step (v := .pointer (some ⟨b5, 0, none⟩)) hE231 (y_field rfl (fun _ => by kernel_rfl)) rfl rfl rfl ?_; intro a232 hE233; clear hE231
         refine q_step (v := .pointer (some ⟨b5, 0, none⟩)) hE233 (y_field rfl (fun _ => by kernel_rfl)) rfl rfl rfl ?_; intro a234 hE235; clear hE233
         refine q_step (v := .int .i64 mp0) hE235 (y_load (fun _ => by kernel_rfl) rfl (St.cell (i := 2) hS223 rfl rfl)) rfl rfl rfl ?_; intro a236 hE237; clear hE235
         refine q_step (v := .bool (decide (w10 < mp0))) hE237 (y_lss rfl rfl) rfl rfl rfl ?_; intro a238 hE239; clear hE237
         refine c_nil ?_
         have hE240 := hE239.sub (L' := [(1, .slice apA ((ap).length / 3 : Nat) apC), (3, .pointer (some ⟨b5, 0, none⟩)), (7, .pointer (some ⟨b20, 0, none⟩)), (8, .bool (decide ((gS 3 0 ap 0) = 7))), (9, .slice b210 ((worlds).length) c211), (10, .int .i64 w10), (76, .bool (decide (w10 < mp0)))]) ⟨rfl, rfl, rfl, rfl, rfl, rfl, rfl, trivial⟩; clear hE239
         refine p_tn ?_
         refine c_cond hE240 rfl (fun ht241 => ?_) (fun ht241 => ?_)
         ·
          have hp242 := of_decide_eq_true ht241
          have hE243 := hE240; rw [ht241] at hE243; clear hE240
          have hag := (show ∀ x : Nat, ¬ (x : Int) = gS 3 1 ap 0 → gI next9 (x : Int) = gI worlds (x : Int) by assumption)
          refine wp_skip ?_
          refine p_tn ?_
          refine c_seq ?_
          refine wp_block ?_
          refine c_seq ?_
          refine c_reg ?_
          refine q_step (v := .slice b210 ((worlds).length) c211) hE243 (y_move rfl) rfl rfl rfl ?_; intro a244 hE245; clear hE243
          refine q_step (v := .pointer (some ⟨b20, 1, none⟩)) hE245 (y_field rfl (fun _ => by kernel_rfl)) rfl rfl rfl ?_; intro a246 hE247; clear hE245
          refine q_step (v := .int .i64 (gS 3 1 ap 0)) hE247 (y_load (fun _ => by kernel_rfl) rfl (St.cell (i := 1) hS223 rfl rfl)) rfl rfl rfl ?_; intro a248 hE249; clear hE247
          refine q_step (v := .int .i64 w10) hE249 (y_move rfl) rfl rfl rfl ?_; intro a250 hE251; clear hE249
          refine q_step (v := .pointer (some (adr b210 (Int.toNat (gS 3 1 ap 0))))) hE251 (y_idx (by kernel_rfl) (fun _ => by kernel_rfl) rfl rfl (RdS.isS (m := gS 3 1 ap 0) (St.rdO (i := 0) hS223 rfl) (by omega) (by omega)) (by omega) (by omega) (Nat.mul_one _).symm) rfl rfl rfl ?_; intro a252 hE253; clear hE251
          refine l_step hE253 rfl (l_store (k := 0) hS223 hE253 (fun _ => by kernel_rfl) rfl rfl rfl (by omega) (by omega) ?_)
          intro w255 hS258 a256 hE257; clear hS223 hE253
          refine c_nil ?_
          have hE260 := hE257.sub (L' := [(1, .slice apA ((ap).length / 3 : Nat) apC), (3, .pointer (some ⟨b5, 0, none⟩)), (7, .pointer (some ⟨b20, 0, none⟩)), (8, .bool (decide ((gS 3 0 ap 0) = 7))), (9, .slice b210 ((worlds).length) c211), (10, .int .i64 w10)]) ⟨rfl, rfl, rfl, rfl, rfl, rfl, trivial⟩; clear hE257
          refine p_tn ?_
          refine c_seq ?_
          refine d_start (fun w w' => (fun w' => w'.heap[b5]? = some (.cells #[.int .i64 mp0, .slice mp1A mp1.length mp1C, .slice mp2A mp2.length mp2C] 69 (0, 0)) ∧ True) w → (fun w' => w'.heap[b5]? = some (.cells #[.int .i64 mp0, .slice mp1A mp1.length mp1C, .slice mp2A mp2.length mp2C] 69 (0, 0)) ∧ True) w') [0] 7 (by kernel_rfl) rfl ?_
          intro w261 he262; have hS263 := St.go hS258 he262; clear hS258
          refine d_take (fun _ h => h) (fun _ _ h k => h k) (v := .agg #[.int .i64 mp0, .slice mp1A mp1.length mp1C, .slice mp2A mp2.length mp2C]) 0 rfl hE260 (S := fun w' => w'.heap[b5]? = some (.cells #[.int .i64 mp0, .slice mp1A mp1.length mp1C, .slice mp2A mp2.length mp2C] 69 (0, 0)) ∧ True) ⟨(St.row (i := 2) hS263 rfl _ (Ext.refl _)), trivial⟩ (y_loadS Try.underlying69 rfl (by kernel_rfl) rfl (fun _ h => h.1)) rfl rfl (by kernel_rfl) (by kernel_rfl) (by kernel_rfl) (by kernel_rfl) rfl rfl (fun _ _ _ h => h) ?_; intro a264 hE265; clear hE260
          refine d_pure (fun _ h => h) (v := .slice apA ((ap).length / 3 : Nat) apC) 1 rfl hE265 (y_move rfl) rfl (by kernel_rfl) (by kernel_rfl) (by kernel_rfl) rfl rfl (fun _ _ _ h => h) ?_; intro a266 hE267; clear hE265
          have hv269 := (St.rdR (i := 4) hS263 rfl).2.1
          have hv268 : (0 : Int) ≤ 1 ∧ 1 ≤ (((ap).length / 3 : Nat) : Int) ∧ (((ap).length / 3 : Nat) : Int) ≤ (((ap).length / 3 : Nat) : Int) := ⟨(by omega), (by omega), (by omega)⟩
          have hv270 : Int.toNat (((ap).length / 3 : Nat) : Int) - Int.toNat 1 = ((slI 3 ap 1 (((ap).length / 3 : Nat) : Int)).length / 3 : Nat) := ((slI_lenD (by decide) (St.rdR (i := 4) hS263 rfl).1 hv268.2.2)).symm
          have hv271 : Int.toNat (((ap).length / 3 : Nat) : Int) ≤ apC ∧ apC ≤ apC := ⟨by omega, Nat.le_refl _⟩
          refine d_pure (fun _ h => h) (v := .slice (subA apA (Int.toNat 1) apC 3) ((slI 3 ap 1 (((ap).length / 3 : Nat) : Int)).length / 3 : Nat) (apC - Int.toNat 1)) 2 rfl hE267 (y_sliceL (by kernel_rfl) (fun _ => by kernel_rfl) rfl rfl hv268.1 hv268.2.1 (by have h := hv270; omega) rfl) rfl (by kernel_rfl) (by kernel_rfl) (by kernel_rfl) rfl rfl (fun _ _ _ h => h) ?_; intro a272 hE273; clear hE267
          refine d_pure (fun _ h => h) (v := .slice b210 ((worlds).length) c211) 3 rfl hE273 (y_move rfl) rfl (by kernel_rfl) (by kernel_rfl) (by kernel_rfl) rfl rfl (fun _ _ _ h => h) ?_; intro a274 hE275; clear hE273
          refine d_pure (fun _ h => h) (v := .bool (decide ((gS 3 0 ap 0) = 7))) 5 rfl hE275 (y_move rfl) rfl (by kernel_rfl) (by kernel_rfl) (by kernel_rfl) rfl rfl (fun _ _ _ h => h) ?_; intro a276 hE277; clear hE275
          refine d_only 4 (by kernel_rfl) rfl hE277 rfl (l_call (f := 114) (argv := [.agg #[.int .i64 mp0, .slice mp1A mp1.length mp1C, .slice mp2A mp2.length mp2C], .slice (subA apA (Int.toNat 1) apC 3) ((slI 3 ap 1 (((ap).length / 3 : Nat) : Int)).length / 3 : Nat) (apC - Int.toNat 1), .slice b210 ((worlds).length) c211]) hE277 (fun _ => cf_l10Holds _ _) rfl rfl (ih mp0 mp1A mp1.length mp1C mp1 mp2A mp2.length mp2C mp2 (subA apA (Int.toNat 1) apC 3) ((slI 3 ap 1 (((ap).length / 3 : Nat) : Int)).length / 3 : Nat) (apC - Int.toNat 1) (slI 3 ap 1 (((ap).length / 3 : Nat) : Int)) b210 ((worlds).length) c211 (sI next9 (gS 3 1 ap 0) w10) w261 (St.rdR (i := 6) hS263 rfl) (St.rdR (i := 5) hS263 rfl) (RdS.sub (St.rdR (i := 4) hS263 rfl) apC hv268.1 hv268.2.1 hv268.2.2 hv271.1 hv271.2 hv270 rfl) (St.rdO (i := 0) hS263 rfl) (by omega) (by omega) (by omega) (Nat.le_trans (slI_le 3 _ _ _) hl) (by first | (with_reducible exact hbn.2.1.1) | (with_reducible exact hbn.2.1.2) | exact (IsPm.un hf (by omega)).1) (by first | assumption | (rw [sI_len]; assumption)) (by first | (have h9 := pm_frL hf (by omega) hfw; with_reducible exact h9) | (have h9 := pm_frR hf (by omega) hfw; with_reducible exact h9) | exact pm_frun hf (by omega) hfw (by omega) (by omega) (by omega) hag) (by first | (have h := hbn.2.2; omega) | (have h := (IsPm.un hf (by omega)).2; omega))) ?_)
          rintro _ w279 ⟨rfl, he283⟩ a280 hE281; clear hE277
          have hS282 := St.go hS263 he283; clear hS263
          refine ⟨fun h => Bool.noConfusion (h.symm.trans (show exm _ _ _ = true by kernel_rfl)), ?_⟩
          refine d_pure (fun _ h => h) (v := .bool ((self mp0 mp1 mp2 (slI 3 ap 1 (((ap).length / 3 : Nat) : Int)) (sI next9 (gS 3 1 ap 0) w10)) != (decide ((gS 3 0 ap 0) = 7)))) 6 rfl hE281 (y_neqb (by kernel_rfl) rfl rfl) rfl (by kernel_rfl) (by kernel_rfl) (by kernel_rfl) rfl rfl (fun _ _ _ h => h) ?_; intro a284 hE285; clear hE281
          refine d_done (by kernel_rfl) ?_
          have hE286 := hE285.sub (L' := [(1, .slice apA ((ap).length / 3 : Nat) apC), (3, .pointer (some ⟨b5, 0, none⟩)), (7, .pointer (some ⟨b20, 0, none⟩)), (8, .bool (decide ((gS 3 0 ap 0) = 7))), (9, .slice b210 ((worlds).length) c211), (10, .int .i64 w10), (90, .bool ((self mp0 mp1 mp2 (slI 3 ap 1 (((ap).length / 3 : Nat) : Int)) (sI next9 (gS 3 1 ap 0) w10)) != (decide ((gS 3 0 ap 0) = 7))))]) ⟨rfl, rfl, rfl, rfl, rfl, rfl, rfl, trivial⟩; clear hE285
          refine p_tn ?_
          refine c_cond hE286 rfl (fun ht287 => ?_) (fun ht287 => ?_)
          ·
           have hE288 := hE286; rw [ht287] at hE288; clear hE286
           refine c_seq ?_
           refine c_reg ?_
           refine q_step (v := .bool (decide ((gS 3 0 ap 0) = 7))) hE288 (y_move rfl) rfl rfl rfl ?_; intro a289 hE290; clear hE288
           refine q_step (v := .bool (!(decide ((gS 3 0 ap 0) = 7)))) hE290 (y_not rfl) rfl rfl rfl ?_; intro a291 hE292; clear hE290
           refine q_step (v := .bool (!(decide ((gS 3 0 ap 0) = 7)))) hE292 (y_assign rfl) rfl rfl rfl ?_; intro a293 hE294; clear hE292
           refine c_nil ?_
           have hE295 := hE294.sub (L' := [(6, .bool (!(decide ((gS 3 0 ap 0) = 7))))]) ⟨rfl, trivial⟩; clear hE294
           refine p_tn ?_
           refine wp_ret ?_
           refine p_br ?_
           refine p_tr ?_
           have hX296 : F_l10Holds_L1 mp0 mp1 mp2 ap self (Int.toNat (mp0 - 0) + 1) 0 worlds = .error (!(decide ((gS 3 0 ap 0) = 7))) := hT224.symm.trans (show F_l10Holds_L1b mp0 mp1 mp2 ap self (F_l10Holds_L1 mp0 mp1 mp2 ap self r229) w10 next9 = .error (!(decide ((gS 3 0 ap 0) = 7))) by unfold F_l10Holds_L1b; rw [ht287, ht241]; first | done | rfl)
           refine p_tr (p_br (p_tr ?_))
           refine p_tr ?_
           refine p_br ?_
           refine p_tr ?_
           have hF : F_l10Holds_b self mp0 mp1 mp2 ap worlds = (!(decide ((gS 3 0 ap 0) = 7))) := by unfold F_l10Holds_b; (first | (rw [hX296, ht190, ht177, ht133, ht95, ht43]; first | done | rfl) | (exfalso; omega))
           refine c_ret1 hE295 rfl rfl ?_
           exact ⟨(by rw [hF]; first | done | (dsimp only; done) | rfl), hS282.ext⟩
          ·
           have hE297 := hE286; rw [ht287] at hE297; clear hE286
           refine wp_skip ?_
           refine p_bn ?_
           refine p_tn ?_
           refine c_reg ?_
           refine q_step (v := .int .i64 w10) hE297 (y_move rfl) rfl rfl rfl ?_; intro a298 hE299; clear hE297
           refine q_step (v := .int .i64 (w10 + 1)) hE299 (y_add rfl rfl ⟨(by omega), (by omega)⟩) rfl rfl rfl ?_; intro a300 hE301; clear hE299
           refine q_step (v := .int .i64 (w10 + 1)) hE301 (y_assign rfl) rfl rfl rfl ?_; intro a302 hE303; clear hE301
           refine c_nil ?_
           have hE304 := hE303.sub (L' := [(1, .slice apA ((ap).length / 3 : Nat) apC), (3, .pointer (some ⟨b5, 0, none⟩)), (7, .pointer (some ⟨b20, 0, none⟩)), (8, .bool (decide ((gS 3 0 ap 0) = 7))), (9, .slice b210 ((worlds).length) c211), (10, .int .i64 (w10 + 1))]) ⟨rfl, rfl, rfl, rfl, rfl, rfl, trivial⟩; clear hE303
           refine p_tn ⟨r229, Nat.lt_succ_self _, w10 + 1, sI next9 (gS 3 1 ap 0) w10, (hT224.symm.trans (show F_l10Holds_L1b mp0 mp1 mp2 ap self (F_l10Holds_L1 mp0 mp1 mp2 ap self r229) w10 next9 = F_l10Holds_L1 mp0 mp1 mp2 ap self r229 (w10 + 1) (sI next9 (gS 3 1 ap 0) w10) by unfold F_l10Holds_L1b; rw [ht287, ht241]; first | done | rfl)).symm, (by omega), (by first | omega | (simp only [sS_len, sL_len]; omega) | (simp only [List.length_replicate, sI_len]; omega) | (simp only [List.length_append, List.length_cons, List.length_nil, sI_len, cond_true, cond_false]; omega) | (simp only [List.length_append, List.length_cons, List.length_nil, sI_len, cond_eq_ite, apply_ite List.length]; split <;> simp only [List.length_append, List.length_cons, List.length_nil, sI_len] <;> omega) | grind), (by rw [sI_len]; assumption), (agree_sI (by omega) (by omega) hag), (hE304.sub (L' := [(1, .slice apA ((ap).length / 3 : Nat) apC), (3, .pointer (some ⟨b5, 0, none⟩)), (7, .pointer (some ⟨b20, 0, none⟩)), (8, .bool (decide ((gS 3 0 ap 0) = 7))), (9, .slice b210 ((worlds).length) c211), (10, .int .i64 (w10 + 1))]) ⟨rfl, rfl, rfl, rfl, rfl, rfl, trivial⟩), (St.pick (Γ' := [.own 2 1 b210 ((worlds).length) c211 (sI next9 (gS 3 1 ap 0) w10), .blk b20 #[.int .i64 (gS 3 0 ap 0), .int .i64 (gS 3 1 ap 0), .int .i64 (gS 3 2 ap 0)] 115, .blk b5 #[.int .i64 mp0, .slice mp1A mp1.length mp1C, .slice mp2A mp2.length mp2C] 69, .rd 1 worldsA worlds.length worldsC worlds, .rd 3 apA ((ap).length / 3 : Nat) apC ap, .rd 1 mp2A mp2.length mp2C mp2, .rd 1 mp1A mp1.length mp1C mp1]) hS282 [0, 1, 2, 3, 4, 5, 6] (by decide) rfl)⟩
         ·
          have hp305 := of_decide_eq_false ht241
          have hE306 := hE240; rw [ht241] at hE306; clear hE240
          refine wp_exit ?_
          refine p_te ?_
          have hX307 : F_l10Holds_L1 mp0 mp1 mp2 ap self (Int.toNat (mp0 - 0) + 1) 0 worlds = .ok (w10, next9) := hT224.symm.trans (show F_l10Holds_L1b mp0 mp1 mp2 ap self (F_l10Holds_L1 mp0 mp1 mp2 ap self r229) w10 next9 = .ok (w10, next9) by unfold F_l10Holds_L1b; rw [ht241]; first | done | rfl)
          refine p_te (p_be (p_tn ?_))
          exact ⟨(by rw [hX307]; rfl), (by rw [hX307]; exact (show 0 ≤ w10 from (by first | omega | (simp only [sS_len, sL_len]; omega) | (simp only [List.length_replicate, sI_len]; omega) | (simp only [List.length_append, List.length_cons, List.length_nil, sI_len, cond_true, cond_false]; omega) | (simp only [List.length_append, List.length_cons, List.length_nil, sI_len, cond_eq_ite, apply_ite List.length]; split <;> simp only [List.length_append, List.length_cons, List.length_nil, sI_len] <;> omega) | grind))), (by rw [hX307]; exact (show next9.length = 10 from (by first | omega | (simp only [sS_len, sL_len]; omega) | (simp only [List.length_replicate, sI_len]; omega) | (simp only [List.length_append, List.length_cons, List.length_nil, sI_len, cond_true, cond_false]; omega) | (simp only [List.length_append, List.length_cons, List.length_nil, sI_len, cond_eq_ite, apply_ite List.length]; split <;> simp only [List.length_append, List.length_cons, List.length_nil, sI_len] <;> omega) | grind))), (by rw [hX307]; exact (show ∀ x : Nat, ¬ (x : Int) = gS 3 1 ap 0 → gI next9 (x : Int) = gI worlds (x : Int) from (by first | omega | (simp only [sS_len, sL_len]; omega) | (simp only [List.length_replicate, sI_len]; omega) | (simp only [List.length_append, List.length_cons, List.length_nil, sI_len, cond_true, cond_false]; omega) | (simp only [List.length_append, List.length_cons, List.length_nil, sI_len, cond_eq_ite, apply_ite List.length]; split <;> simp only [List.length_append, List.length_cons, List.length_nil, sI_len] <;> omega) | grind))), (by rw [hX307]; exact (hE306.sub (L' := [(1, .slice apA ((ap).length / 3 : Nat) apC), (3, .pointer (some ⟨b5, 0, none⟩)), (7, .pointer (some ⟨b20, 0, none⟩)), (8, .bool (decide ((gS 3 0 ap 0) = 7))), (9, .slice b210 ((worlds).length) c211), (10, .int .i64 w10)]) ⟨rfl, rfl, rfl, rfl, rfl, rfl, trivial⟩)), (by rw [hX307]; exact (St.pick (Γ' := [.own 2 1 b210 ((worlds).length) c211 next9, .blk b20 #[.int .i64 (gS 3 0 ap 0), .int .i64 (gS 3 1 ap 0), .int .i64 (gS 3 2 ap 0)] 115, .blk b5 #[.int .i64 mp0, .slice mp1A mp1.length mp1C, .slice mp2A mp2.length mp2C] 69, .rd 1 worldsA worlds.length worldsC worlds, .rd 3 apA ((ap).length / 3 : Nat) apC ap, .rd 1 mp2A mp2.length mp2C mp2, .rd 1 mp1A mp1.length mp1C mp1]) hS223 [0, 1, 2, 3, 4, 5, 6] (by decide) rfl))⟩
       ·
        rintro a308 w309 ⟨hO312, hi313, hi314, hi315, hE310, hS311⟩; clear hE218 hS208
        refine p_tn ?_
        refine c_seq ?_
        refine c_reg ?_
        refine q_step (v := .bool (decide ((gS 3 0 ap 0) = 7))) hE310 (y_move rfl) rfl rfl rfl ?_; intro a316 hE317; clear hE310
        refine q_step (v := .bool (decide ((gS 3 0 ap 0) = 7))) hE317 (y_assign rfl) rfl rfl rfl ?_; intro a318 hE319; clear hE317
        refine c_nil ?_
        have hE320 := hE319.sub (L' := [(6, .bool (decide ((gS 3 0 ap 0) = 7)))]) ⟨rfl, trivial⟩; clear hE319
        refine p_tn ?_
        refine wp_ret ?_
        refine p_br ?_
        refine p_tr ?_
        have hF : F_l10Holds_b self mp0 mp1 mp2 ap worlds = decide ((gS 3 0 ap 0) = 7) := by unfold F_l10Holds_b; (first | (rw [hO312, ht190, ht177, ht133, ht95, ht43]; first | done | rfl) | (exfalso; omega))
        refine c_ret1 hE320 rfl rfl ?_
        exact ⟨(by rw [hF]; first | done | (dsimp only; done) | rfl), hS311.ext⟩
      ·
       have hp321 := of_decide_eq_false ht190
       have hE322 := hE189; rw [ht190] at hE322; clear hE189
       refine c_reg ?_
       refine q_step (v := .bool (decide ((gS 3 0 ap 0) = 8))) hE322 (y_eql rfl rfl) rfl rfl rfl ?_; intro a323 hE324; clear hE322
       refine q_step (v := .bool (decide ((gS 3 0 ap 0) = 8))) hE324 (y_assign rfl) rfl rfl rfl ?_; intro a325 hE326; clear hE324
       refine c_nil ?_
       have hE327 := hE326.sub (L' := [(1, .slice apA ((ap).length / 3 : Nat) apC), (2, .slice worldsA worlds.length worldsC), (3, .pointer (some ⟨b5, 0, none⟩)), (7, .pointer (some ⟨b20, 0, none⟩)), (64, .bool (decide ((gS 3 0 ap 0) = 8)))]) ⟨rfl, rfl, rfl, rfl, rfl, trivial⟩; clear hE326
       refine p_tn ?_
       refine c_cond hE327 rfl (fun ht328 => ?_) (fun ht328 => ?_)
       ·
        have hp329 := of_decide_eq_true ht328
        have hE330 := hE327; rw [ht328] at hE330; clear hE327
        refine c_seq ?_
        refine c_reg ?_
        refine q_step (v := .pointer (some ⟨b20, 0, none⟩)) hE330 (y_field rfl (fun _ => by kernel_rfl)) rfl rfl rfl ?_; intro a331 hE332; clear hE330
        refine q_step (v := .int .i64 (gS 3 0 ap 0)) hE332 (y_load (fun _ => by kernel_rfl) rfl (St.cell (i := 0) hS30 rfl rfl)) rfl rfl rfl ?_; intro a333 hE334; clear hE332
        refine q_step (v := .bool (decide ((gS 3 0 ap 0) = 7))) hE334 (y_eql rfl rfl) rfl rfl rfl ?_; intro a335 hE336; clear hE334
        refine q_step (v := .bool (decide ((gS 3 0 ap 0) = 7))) hE336 (y_assign rfl) rfl rfl rfl ?_; intro a337 hE338; clear hE336
        refine c_nil ?_
        have hE339 := hE338.sub (L' := [(1, .slice apA ((ap).length / 3 : Nat) apC), (2, .slice worldsA worlds.length worldsC), (3, .pointer (some ⟨b5, 0, none⟩)), (7, .pointer (some ⟨b20, 0, none⟩)), (8, .bool (decide ((gS 3 0 ap 0) = 7)))]) ⟨rfl, rfl, rfl, rfl, rfl, trivial⟩; clear hE338
        refine p_tn ?_
        refine c_seq ?_
        refine c_reg ?_
        refine q_step (v := .slice worldsA worlds.length worldsC) hE339 (y_move rfl) rfl rfl rfl ?_; intro a340 hE341; clear hE339
        refine l_step hE341 rfl (l_call (f := 180) (argv := [.slice worldsA worlds.length worldsC]) hE341 (fun _ => cf_l01Own _ _) rfl rfl (d_l01Own worldsA worlds.length worldsC worlds w27 (St.rdR (i := 2) hS30 rfl) (by omega)) ?_)
        rintro _ w343 ⟨b348, c349, rfl, ho350, he347⟩ a344 hE345; clear hE341
        have hS346 := St.own hS30 he347 ho350; clear hS30
        refine q_step (v := .slice b348 ((worlds).length) c349) hE345 (y_assign rfl) rfl rfl rfl ?_; intro a351 hE352; clear hE345
        refine c_nil ?_
        have hE353 := hE352.sub (L' := [(1, .slice apA ((ap).length / 3 : Nat) apC), (3, .pointer (some ⟨b5, 0, none⟩)), (7, .pointer (some ⟨b20, 0, none⟩)), (8, .bool (decide ((gS 3 0 ap 0) = 7))), (9, .slice b348 ((worlds).length) c349)]) ⟨rfl, rfl, rfl, rfl, rfl, trivial⟩; clear hE352
        refine p_tn ?_
        refine c_seq ?_
        refine c_seq ?_
        refine c_reg ?_
        refine q_step (v := .int .i64 0) hE353 (y_assign rfl) rfl rfl rfl ?_; intro a354 hE355; clear hE353
        refine c_nil ?_
        have hE356 := hE355.sub (L' := [(1, .slice apA ((ap).length / 3 : Nat) apC), (3, .pointer (some ⟨b5, 0, none⟩)), (7, .pointer (some ⟨b20, 0, none⟩)), (8, .bool (decide ((gS 3 0 ap 0) = 7))), (9, .slice b348 ((worlds).length) c349), (10, .int .i64 0)]) ⟨rfl, rfl, rfl, rfl, rfl, rfl, trivial⟩; clear hE355
        refine p_tn ?_
        refine c_cut1 (fun a' w' => isOk (F_l10Holds_L2 mp0 mp1 mp2 ap self (Int.toNat (mp0 - 0) + 1) 0 worlds) = true ∧ (0 ≤ ((okD (F_l10Holds_L2 mp0 mp1 mp2 ap self (Int.toNat (mp0 - 0) + 1) 0 worlds)).1)) ∧ (((okD (F_l10Holds_L2 mp0 mp1 mp2 ap self (Int.toNat (mp0 - 0) + 1) 0 worlds)).2).length = 10) ∧ (∀ x : Nat, ¬ (x : Int) = gS 3 1 ap 0 → gI ((okD (F_l10Holds_L2 mp0 mp1 mp2 ap self (Int.toNat (mp0 - 0) + 1) 0 worlds)).2) (x : Int) = gI worlds (x : Int)) ∧ E a' 127 [(1, .slice apA ((ap).length / 3 : Nat) apC), (3, .pointer (some ⟨b5, 0, none⟩)), (7, .pointer (some ⟨b20, 0, none⟩)), (8, .bool (decide ((gS 3 0 ap 0) = 7))), (9, .slice b348 ((worlds).length) c349), (10, .int .i64 ((okD (F_l10Holds_L2 mp0 mp1 mp2 ap self (Int.toNat (mp0 - 0) + 1) 0 worlds)).1))] ∧ St w w' [.own 2 1 b348 ((worlds).length) c349 ((okD (F_l10Holds_L2 mp0 mp1 mp2 ap self (Int.toNat (mp0 - 0) + 1) 0 worlds)).2), .blk b20 #[.int .i64 (gS 3 0 ap 0), .int .i64 (gS 3 1 ap 0), .int .i64 (gS 3 2 ap 0)] 115, .blk b5 #[.int .i64 mp0, .slice mp1A mp1.length mp1C, .slice mp2A mp2.length mp2C] 69, .rd 1 worldsA worlds.length worldsC worlds, .rd 3 apA ((ap).length / 3 : Nat) apC ap, .rd 1 mp2A mp2.length mp2C mp2, .rd 1 mp1A mp1.length mp1C mp1]) ?_ ?_
        ·
         refine wp_block ?_
         refine c_loop (fun r a' w' => ∃ w10L2 : Int, ∃ next9L2 : List Int, F_l10Holds_L2 mp0 mp1 mp2 ap self r w10L2 next9L2 = F_l10Holds_L2 mp0 mp1 mp2 ap self (Int.toNat (mp0 - 0) + 1) 0 worlds ∧ Int.toNat (mp0 - w10L2) < r ∧ (0 ≤ w10L2) ∧ (next9L2.length = 10) ∧ (∀ x : Nat, ¬ (x : Int) = gS 3 1 ap 0 → gI next9L2 (x : Int) = gI worlds (x : Int)) ∧ E a' 127 [(1, .slice apA ((ap).length / 3 : Nat) apC), (3, .pointer (some ⟨b5, 0, none⟩)), (7, .pointer (some ⟨b20, 0, none⟩)), (8, .bool (decide ((gS 3 0 ap 0) = 7))), (9, .slice b348 ((worlds).length) c349), (10, .int .i64 w10L2)] ∧ St w w' [.own 2 1 b348 ((worlds).length) c349 next9L2, .blk b20 #[.int .i64 (gS 3 0 ap 0), .int .i64 (gS 3 1 ap 0), .int .i64 (gS 3 2 ap 0)] 115, .blk b5 #[.int .i64 mp0, .slice mp1A mp1.length mp1C, .slice mp2A mp2.length mp2C] 69, .rd 1 worldsA worlds.length worldsC worlds, .rd 3 apA ((ap).length / 3 : Nat) apC ap, .rd 1 mp2A mp2.length mp2C mp2, .rd 1 mp1A mp1.length mp1C mp1]) (r := (Int.toNat (mp0 - 0) + 1)) ?_ ?_
         · exact ⟨0, worlds, rfl, Nat.lt_succ_self _, (by first | omega | (simp only [sS_len, sL_len]; omega) | (simp only [List.length_replicate, sI_len]; omega) | (simp only [List.length_append, List.length_cons, List.length_nil, sI_len, cond_true, cond_false]; omega) | (simp only [List.length_append, List.length_cons, List.length_nil, sI_len, cond_eq_ite, apply_ite List.length]; split <;> simp only [List.length_append, List.length_cons, List.length_nil, sI_len] <;> omega) | grind), hw, (fun _ _ => rfl), (hE356.sub (L' := [(1, .slice apA ((ap).length / 3 : Nat) apC), (3, .pointer (some ⟨b5, 0, none⟩)), (7, .pointer (some ⟨b20, 0, none⟩)), (8, .bool (decide ((gS 3 0 ap 0) = 7))), (9, .slice b348 ((worlds).length) c349), (10, .int .i64 0)]) ⟨rfl, rfl, rfl, rfl, rfl, rfl, trivial⟩), (St.pick (Γ' := [.own 2 1 b348 ((worlds).length) c349 worlds, .blk b20 #[.int .i64 (gS 3 0 ap 0), .int .i64 (gS 3 1 ap 0), .int .i64 (gS 3 2 ap 0)] 115, .blk b5 #[.int .i64 mp0, .slice mp1A mp1.length mp1C, .slice mp2A mp2.length mp2C] 69, .rd 1 worldsA worlds.length worldsC worlds, .rd 3 apA ((ap).length / 3 : Nat) apC ap, .rd 1 mp2A mp2.length mp2C mp2, .rd 1 mp1A mp1.length mp1C mp1]) hS346 [0, 1, 2, 3, 4, 5, 6] (by decide) rfl)⟩
         ·
          clear hE356 hS346
          rintro r367 a358 w359 ⟨w10L2, next9L2, hT362, hr363, hi364, hi365, hi366, hE360, hS361⟩
          obtain ⟨r367, rfl⟩ : ∃ r', r367 = r' + 1 := ⟨r367 - 1, by omega⟩
          refine c_seq ?_
          refine c_seq ?_
          refine c_reg ?_
          refine q_step (v := .int .i64 w10L2) hE360 (y_move rfl) rfl rfl rfl ?_; intro a368 hE369; clear hE360
          refine q_step (v := .pointer (some ⟨b5, 0, none⟩)) hE369 (y_field rfl (fun _ => by kernel_rfl)) rfl rfl rfl ?_; intro a370 hE371; clear hE369
          refine q_step (v := .pointer (some ⟨b5, 0, none⟩)) hE371 (y_field rfl (fun _ => by kernel_rfl)) rfl rfl rfl ?_; intro a372 hE373; clear hE371
          refine q_step (v := .int .i64 mp0) hE373 (y_load (fun _ => by kernel_rfl) rfl (St.cell (i := 2) hS361 rfl rfl)) rfl rfl rfl ?_; intro a374 hE375; clear hE373
          refine q_step (v := .bool (decide (w10L2 < mp0))) hE375 (y_lss rfl rfl) rfl rfl rfl ?_; intro a376 hE377; clear hE375
          refine c_nil ?_
          have hE378 := hE377.sub (L' := [(1, .slice apA ((ap).length / 3 : Nat) apC), (3, .pointer (some ⟨b5, 0, none⟩)), (7, .pointer (some ⟨b20, 0, none⟩)), (8, .bool (decide ((gS 3 0 ap 0) = 7))), (9, .slice b348 ((worlds).length) c349), (10, .int .i64 w10L2), (76, .bool (decide (w10L2 < mp0)))]) ⟨rfl, rfl, rfl, rfl, rfl, rfl, rfl, trivial⟩; clear hE377
          refine p_tn ?_
          refine c_cond hE378 rfl (fun ht379 => ?_) (fun ht379 => ?_)
          ·
           have hp380 := of_decide_eq_true ht379
           have hE381 := hE378; rw [ht379] at hE381; clear hE378
           have hag := (show ∀ x : Nat, ¬ (x : Int) = gS 3 1 ap 0 → gI next9L2 (x : Int) = gI worlds (x : Int) by assumption)
           refine wp_skip ?_
           refine p_tn ?_
           refine c_seq ?_
           refine wp_block ?_
           refine c_seq ?_
           refine c_reg ?_
           refine q_step (v := .slice b348 ((worlds).length) c349) hE381 (y_move rfl) rfl rfl rfl ?_; intro a382 hE383; clear hE381
           refine q_step (v := .pointer (some ⟨b20, 1, none⟩)) hE383 (y_field rfl (fun _ => by kernel_rfl)) rfl rfl rfl ?_; intro a384 hE385; clear hE383
           refine q_step (v := .int .i64 (gS 3 1 ap 0)) hE385 (y_load (fun _ => by kernel_rfl) rfl (St.cell (i := 1) hS361 rfl rfl)) rfl rfl rfl ?_; intro a386 hE387; clear hE385
           refine q_step (v := .int .i64 w10L2) hE387 (y_move rfl) rfl rfl rfl ?_; intro a388 hE389; clear hE387
           refine q_step (v := .pointer (some (adr b348 (Int.toNat (gS 3 1 ap 0))))) hE389 (y_idx (by kernel_rfl) (fun _ => by kernel_rfl) rfl rfl (RdS.isS (m := gS 3 1 ap 0) (St.rdO (i := 0) hS361 rfl) (by omega) (by omega)) (by omega) (by omega) (Nat.mul_one _).symm) rfl rfl rfl ?_; intro a390 hE391; clear hE389
           refine l_step hE391 rfl (l_store (k := 0) hS361 hE391 (fun _ => by kernel_rfl) rfl rfl rfl (by omega) (by omega) ?_)
           intro w393 hS396 a394 hE395; clear hS361 hE391
           refine c_nil ?_
           have hE398 := hE395.sub (L' := [(1, .slice apA ((ap).length / 3 : Nat) apC), (3, .pointer (some ⟨b5, 0, none⟩)), (7, .pointer (some ⟨b20, 0, none⟩)), (8, .bool (decide ((gS 3 0 ap 0) = 7))), (9, .slice b348 ((worlds).length) c349), (10, .int .i64 w10L2)]) ⟨rfl, rfl, rfl, rfl, rfl, rfl, trivial⟩; clear hE395
           refine p_tn ?_
           refine c_seq ?_
           refine d_start (fun w w' => (fun w' => w'.heap[b5]? = some (.cells #[.int .i64 mp0, .slice mp1A mp1.length mp1C, .slice mp2A mp2.length mp2C] 69 (0, 0)) ∧ True) w → (fun w' => w'.heap[b5]? = some (.cells #[.int .i64 mp0, .slice mp1A mp1.length mp1C, .slice mp2A mp2.length mp2C] 69 (0, 0)) ∧ True) w') [0] 7 (by kernel_rfl) rfl ?_
           intro w399 he400; have hS401 := St.go hS396 he400; clear hS396
           refine d_take (fun _ h => h) (fun _ _ h k => h k) (v := .agg #[.int .i64 mp0, .slice mp1A mp1.length mp1C, .slice mp2A mp2.length mp2C]) 0 rfl hE398 (S := fun w' => w'.heap[b5]? = some (.cells #[.int .i64 mp0, .slice mp1A mp1.length mp1C, .slice mp2A mp2.length mp2C] 69 (0, 0)) ∧ True) ⟨(St.row (i := 2) hS401 rfl _ (Ext.refl _)), trivial⟩ (y_loadS Try.underlying69 rfl (by kernel_rfl) rfl (fun _ h => h.1)) rfl rfl (by kernel_rfl) (by kernel_rfl) (by kernel_rfl) (by kernel_rfl) rfl rfl (fun _ _ _ h => h) ?_; intro a402 hE403; clear hE398
           refine d_pure (fun _ h => h) (v := .slice apA ((ap).length / 3 : Nat) apC) 1 rfl hE403 (y_move rfl) rfl (by kernel_rfl) (by kernel_rfl) (by kernel_rfl) rfl rfl (fun _ _ _ h => h) ?_; intro a404 hE405; clear hE403
           have hv407 := (St.rdR (i := 4) hS401 rfl).2.1
           have hv406 : (0 : Int) ≤ 1 ∧ 1 ≤ (((ap).length / 3 : Nat) : Int) ∧ (((ap).length / 3 : Nat) : Int) ≤ (((ap).length / 3 : Nat) : Int) := ⟨(by omega), (by omega), (by omega)⟩
           have hv408 : Int.toNat (((ap).length / 3 : Nat) : Int) - Int.toNat 1 = ((slI 3 ap 1 (((ap).length / 3 : Nat) : Int)).length / 3 : Nat) := ((slI_lenD (by decide) (St.rdR (i := 4) hS401 rfl).1 hv406.2.2)).symm
           have hv409 : Int.toNat (((ap).length / 3 : Nat) : Int) ≤ apC ∧ apC ≤ apC := ⟨by omega, Nat.le_refl _⟩
           refine d_pure (fun _ h => h) (v := .slice (subA apA (Int.toNat 1) apC 3) ((slI 3 ap 1 (((ap).length / 3 : Nat) : Int)).length / 3 : Nat) (apC - Int.toNat 1)) 2 rfl hE405 (y_sliceL (by kernel_rfl) (fun _ => by kernel_rfl) rfl rfl hv406.1 hv406.2.1 (by have h := hv408; omega) rfl) rfl (by kernel_rfl) (by kernel_rfl) (by kernel_rfl) rfl rfl (fun _ _ _ h => h) ?_; intro a410 hE411; clear hE405
           refine d_pure (fun _ h => h) (v := .slice b348 ((worlds).length) c349) 3 rfl hE411 (y_move rfl) rfl (by kernel_rfl) (by kernel_rfl) (by kernel_rfl) rfl rfl (fun _ _ _ h => h) ?_; intro a412 hE413; clear hE411
           refine d_pure (fun _ h => h) (v := .bool (decide ((gS 3 0 ap 0) = 7))) 5 rfl hE413 (y_move rfl) rfl (by kernel_rfl) (by kernel_rfl) (by kernel_rfl) rfl rfl (fun _ _ _ h => h) ?_; intro a414 hE415; clear hE413
           refine d_only 4 (by kernel_rfl) rfl hE415 rfl (l_call (f := 114) (argv := [.agg #[.int .i64 mp0, .slice mp1A mp1.length mp1C, .slice mp2A mp2.length mp2C], .slice (subA apA (Int.toNat 1) apC 3) ((slI 3 ap 1 (((ap).length / 3 : Nat) : Int)).length / 3 : Nat) (apC - Int.toNat 1), .slice b348 ((worlds).length) c349]) hE415 (fun _ => cf_l10Holds _ _) rfl rfl (ih mp0 mp1A mp1.length mp1C mp1 mp2A mp2.length mp2C mp2 (subA apA (Int.toNat 1) apC 3) ((slI 3 ap 1 (((ap).length / 3 : Nat) : Int)).length / 3 : Nat) (apC - Int.toNat 1) (slI 3 ap 1 (((ap).length / 3 : Nat) : Int)) b348 ((worlds).length) c349 (sI next9L2 (gS 3 1 ap 0) w10L2) w399 (St.rdR (i := 6) hS401 rfl) (St.rdR (i := 5) hS401 rfl) (RdS.sub (St.rdR (i := 4) hS401 rfl) apC hv406.1 hv406.2.1 hv406.2.2 hv409.1 hv409.2 hv408 rfl) (St.rdO (i := 0) hS401 rfl) (by omega) (by omega) (by omega) (Nat.le_trans (slI_le 3 _ _ _) hl) (by first | (with_reducible exact hbn.2.1.1) | (with_reducible exact hbn.2.1.2) | exact (IsPm.un hf (by omega)).1) (by first | assumption | (rw [sI_len]; assumption)) (by first | (have h9 := pm_frL hf (by omega) hfw; with_reducible exact h9) | (have h9 := pm_frR hf (by omega) hfw; with_reducible exact h9) | exact pm_frun hf (by omega) hfw (by omega) (by omega) (by omega) hag) (by first | (have h := hbn.2.2; omega) | (have h := (IsPm.un hf (by omega)).2; omega))) ?_)
           rintro _ w417 ⟨rfl, he421⟩ a418 hE419; clear hE415
           have hS420 := St.go hS401 he421; clear hS401
           refine ⟨fun h => Bool.noConfusion (h.symm.trans (show exm _ _ _ = true by kernel_rfl)), ?_⟩
           refine d_pure (fun _ h => h) (v := .bool ((self mp0 mp1 mp2 (slI 3 ap 1 (((ap).length / 3 : Nat) : Int)) (sI next9L2 (gS 3 1 ap 0) w10L2)) != (decide ((gS 3 0 ap 0) = 7)))) 6 rfl hE419 (y_neqb (by kernel_rfl) rfl rfl) rfl (by kernel_rfl) (by kernel_rfl) (by kernel_rfl) rfl rfl (fun _ _ _ h => h) ?_; intro a422 hE423; clear hE419
           refine d_done (by kernel_rfl) ?_
           have hE424 := hE423.sub (L' := [(1, .slice apA ((ap).length / 3 : Nat) apC), (3, .pointer (some ⟨b5, 0, none⟩)), (7, .pointer (some ⟨b20, 0, none⟩)), (8, .bool (decide ((gS 3 0 ap 0) = 7))), (9, .slice b348 ((worlds).length) c349), (10, .int .i64 w10L2), (90, .bool ((self mp0 mp1 mp2 (slI 3 ap 1 (((ap).length / 3 : Nat) : Int)) (sI next9L2 (gS 3 1 ap 0) w10L2)) != (decide ((gS 3 0 ap 0) = 7))))]) ⟨rfl, rfl, rfl, rfl, rfl, rfl, rfl, trivial⟩; clear hE423
           refine p_tn ?_
           refine c_cond hE424 rfl (fun ht425 => ?_) (fun ht425 => ?_)
           ·
            have hE426 := hE424; rw [ht425] at hE426; clear hE424
            refine c_seq ?_
            refine c_reg ?_
            refine q_step (v := .bool (decide ((gS 3 0 ap 0) = 7))) hE426 (y_move rfl) rfl rfl rfl ?_; intro a427 hE428; clear hE426
            refine q_step (v := .bool (!(decide ((gS 3 0 ap 0) = 7)))) hE428 (y_not rfl) rfl rfl rfl ?_; intro a429 hE430; clear hE428
            refine q_step (v := .bool (!(decide ((gS 3 0 ap 0) = 7)))) hE430 (y_assign rfl) rfl rfl rfl ?_; intro a431 hE432; clear hE430
            refine c_nil ?_
            have hE433 := hE432.sub (L' := [(6, .bool (!(decide ((gS 3 0 ap 0) = 7))))]) ⟨rfl, trivial⟩; clear hE432
            refine p_tn ?_
            refine wp_ret ?_
            refine p_br ?_
            refine p_tr ?_
            have hX434 : F_l10Holds_L2 mp0 mp1 mp2 ap self (Int.toNat (mp0 - 0) + 1) 0 worlds = .error (!(decide ((gS 3 0 ap 0) = 7))) := hT362.symm.trans (show F_l10Holds_L2b mp0 mp1 mp2 ap self (F_l10Holds_L2 mp0 mp1 mp2 ap self r367) w10L2 next9L2 = .error (!(decide ((gS 3 0 ap 0) = 7))) by unfold F_l10Holds_L2b; rw [ht425, ht379]; first | done | rfl)
            refine p_tr (p_br (p_tr ?_))
            refine p_tr ?_
            refine p_br ?_
            refine p_tr ?_
            have hF : F_l10Holds_b self mp0 mp1 mp2 ap worlds = (!(decide ((gS 3 0 ap 0) = 7))) := by unfold F_l10Holds_b; (first | (rw [hX434, ht328, ht190, ht177, ht133, ht95, ht43]; first | done | rfl) | (exfalso; omega))
            refine c_ret1 hE433 rfl rfl ?_
            exact ⟨(by rw [hF]; first | done | (dsimp only; done) | rfl), hS420.ext⟩
           ·
            have hE435 := hE424; rw [ht425] at hE435; clear hE424
            refine wp_skip ?_
            refine p_bn ?_
            refine p_tn ?_
            refine c_reg ?_
            refine q_step (v := .int .i64 w10L2) hE435 (y_move rfl) rfl rfl rfl ?_; intro a436 hE437; clear hE435
            refine q_step (v := .int .i64 (w10L2 + 1)) hE437 (y_add rfl rfl ⟨(by omega), (by omega)⟩) rfl rfl rfl ?_; intro a438 hE439; clear hE437
            refine q_step (v := .int .i64 (w10L2 + 1)) hE439 (y_assign rfl) rfl rfl rfl ?_; intro a440 hE441; clear hE439
            refine c_nil ?_
            have hE442 := hE441.sub (L' := [(1, .slice apA ((ap).length / 3 : Nat) apC), (3, .pointer (some ⟨b5, 0, none⟩)), (7, .pointer (some ⟨b20, 0, none⟩)), (8, .bool (decide ((gS 3 0 ap 0) = 7))), (9, .slice b348 ((worlds).length) c349), (10, .int .i64 (w10L2 + 1))]) ⟨rfl, rfl, rfl, rfl, rfl, rfl, trivial⟩; clear hE441
            refine p_tn ⟨r367, Nat.lt_succ_self _, w10L2 + 1, sI next9L2 (gS 3 1 ap 0) w10L2, (hT362.symm.trans (show F_l10Holds_L2b mp0 mp1 mp2 ap self (F_l10Holds_L2 mp0 mp1 mp2 ap self r367) w10L2 next9L2 = F_l10Holds_L2 mp0 mp1 mp2 ap self r367 (w10L2 + 1) (sI next9L2 (gS 3 1 ap 0) w10L2) by unfold F_l10Holds_L2b; rw [ht425, ht379]; first | done | rfl)).symm, (by omega), (by first | omega | (simp only [sS_len, sL_len]; omega) | (simp only [List.length_replicate, sI_len]; omega) | (simp only [List.length_append, List.length_cons, List.length_nil, sI_len, cond_true, cond_false]; omega) | (simp only [List.length_append, List.length_cons, List.length_nil, sI_len, cond_eq_ite, apply_ite List.length]; split <;> simp only [List.length_append, List.length_cons, List.length_nil, sI_len] <;> omega) | grind), (by rw [sI_len]; assumption), (agree_sI (by omega) (by omega) hag), (hE442.sub (L' := [(1, .slice apA ((ap).length / 3 : Nat) apC), (3, .pointer (some ⟨b5, 0, none⟩)), (7, .pointer (some ⟨b20, 0, none⟩)), (8, .bool (decide ((gS 3 0 ap 0) = 7))), (9, .slice b348 ((worlds).length) c349), (10, .int .i64 (w10L2 + 1))]) ⟨rfl, rfl, rfl, rfl, rfl, rfl, trivial⟩), (St.pick (Γ' := [.own 2 1 b348 ((worlds).length) c349 (sI next9L2 (gS 3 1 ap 0) w10L2), .blk b20 #[.int .i64 (gS 3 0 ap 0), .int .i64 (gS 3 1 ap 0), .int .i64 (gS 3 2 ap 0)] 115, .blk b5 #[.int .i64 mp0, .slice mp1A mp1.length mp1C, .slice mp2A mp2.length mp2C] 69, .rd 1 worldsA worlds.length worldsC worlds, .rd 3 apA ((ap).length / 3 : Nat) apC ap, .rd 1 mp2A mp2.length mp2C mp2, .rd 1 mp1A mp1.length mp1C mp1]) hS420 [0, 1, 2, 3, 4, 5, 6] (by decide) rfl)⟩
          ·
           have hp443 := of_decide_eq_false ht379
           have hE444 := hE378; rw [ht379] at hE444; clear hE378
           refine wp_exit ?_
           refine p_te ?_
           have hX445 : F_l10Holds_L2 mp0 mp1 mp2 ap self (Int.toNat (mp0 - 0) + 1) 0 worlds = .ok (w10L2, next9L2) := hT362.symm.trans (show F_l10Holds_L2b mp0 mp1 mp2 ap self (F_l10Holds_L2 mp0 mp1 mp2 ap self r367) w10L2 next9L2 = .ok (w10L2, next9L2) by unfold F_l10Holds_L2b; rw [ht379]; first | done | rfl)
           refine p_te (p_be (p_tn ?_))
           exact ⟨(by rw [hX445]; rfl), (by rw [hX445]; exact (show 0 ≤ w10L2 from (by first | omega | (simp only [sS_len, sL_len]; omega) | (simp only [List.length_replicate, sI_len]; omega) | (simp only [List.length_append, List.length_cons, List.length_nil, sI_len, cond_true, cond_false]; omega) | (simp only [List.length_append, List.length_cons, List.length_nil, sI_len, cond_eq_ite, apply_ite List.length]; split <;> simp only [List.length_append, List.length_cons, List.length_nil, sI_len] <;> omega) | grind))), (by rw [hX445]; exact (show next9L2.length = 10 from (by first | omega | (simp only [sS_len, sL_len]; omega) | (simp only [List.length_replicate, sI_len]; omega) | (simp only [List.length_append, List.length_cons, List.length_nil, sI_len, cond_true, cond_false]; omega) | (simp only [List.length_append, List.length_cons, List.length_nil, sI_len, cond_eq_ite, apply_ite List.length]; split <;> simp only [List.length_append, List.length_cons, List.length_nil, sI_len] <;> omega) | grind))), (by rw [hX445]; exact (show ∀ x : Nat, ¬ (x : Int) = gS 3 1 ap 0 → gI next9L2 (x : Int) = gI worlds (x : Int) from (by first | omega | (simp only [sS_len, sL_len]; omega) | (simp only [List.length_replicate, sI_len]; omega) | (simp only [List.length_append, List.length_cons, List.length_nil, sI_len, cond_true, cond_false]; omega) | (simp only [List.length_append, List.length_cons, List.length_nil, sI_len, cond_eq_ite, apply_ite List.length]; split <;> simp only [List.length_append, List.length_cons, List.length_nil, sI_len] <;> omega) | grind))), (by rw [hX445]; exact (hE444.sub (L' := [(1, .slice apA ((ap).length / 3 : Nat) apC), (3, .pointer (some ⟨b5, 0, none⟩)), (7, .pointer (some ⟨b20, 0, none⟩)), (8, .bool (decide ((gS 3 0 ap 0) = 7))), (9, .slice b348 ((worlds).length) c349), (10, .int .i64 w10L2)]) ⟨rfl, rfl, rfl, rfl, rfl, rfl, trivial⟩)), (by rw [hX445]; exact (St.pick (Γ' := [.own 2 1 b348 ((worlds).length) c349 next9L2, .blk b20 #[.int .i64 (gS 3 0 ap 0), .int .i64 (gS 3 1 ap 0), .int .i64 (gS 3 2 ap 0)] 115, .blk b5 #[.int .i64 mp0, .slice mp1A mp1.length mp1C, .slice mp2A mp2.length mp2C] 69, .rd 1 worldsA worlds.length worldsC worlds, .rd 3 apA ((ap).length / 3 : Nat) apC ap, .rd 1 mp2A mp2.length mp2C mp2, .rd 1 mp1A mp1.length mp1C mp1]) hS361 [0, 1, 2, 3, 4, 5, 6] (by decide) rfl))⟩
        ·
         rintro a446 w447 ⟨hO450, hi451, hi452, hi453, hE448, hS449⟩; clear hE356 hS346
         refine p_tn ?_
         refine c_seq ?_
         refine c_reg ?_
         refine q_step (v := .bool (decide ((gS 3 0 ap 0) = 7))) hE448 (y_move rfl) rfl rfl rfl ?_; intro a454 hE455; clear hE448
         refine q_step (v := .bool (decide ((gS 3 0 ap 0) = 7))) hE455 (y_assign rfl) rfl rfl rfl ?_; intro a456 hE457; clear hE455
         refine c_nil ?_
         have hE458 := hE457.sub (L' := [(6, .bool (decide ((gS 3 0 ap 0) = 7)))]) ⟨rfl, trivial⟩; clear hE457
         refine p_tn ?_
         refine wp_ret ?_
         refine p_br ?_
         refine p_tr ?_
         have hF : F_l10Holds_b self mp0 mp1 mp2 ap worlds = decide ((gS 3 0 ap 0) = 7) := by unfold F_l10Holds_b; (first | (rw [hO450, ht328, ht190, ht177, ht133, ht95, ht43]; first | done | rfl) | (exfalso; omega))
         refine c_ret1 hE458 rfl rfl ?_
         exact ⟨(by rw [hF]; first | done | (dsimp only; done) | rfl), hS449.ext⟩
       ·
        have hp459 := of_decide_eq_false ht328
        have hE460 := hE327; rw [ht328] at hE460; clear hE327
        refine wp_skip ?_
        refine p_bn ?_
        refine p_tn ?_
        refine c_seq ?_
        refine d_start (fun w w' => (fun w' => w'.heap[b5]? = some (.cells #[.int .i64 mp0, .slice mp1A mp1.length mp1C, .slice mp2A mp2.length mp2C] 69 (0, 0)) ∧ True) w → (fun w' => w'.heap[b5]? = some (.cells #[.int .i64 mp0, .slice mp1A mp1.length mp1C, .slice mp2A mp2.length mp2C] 69 (0, 0)) ∧ True) w') [0] 6 (by kernel_rfl) rfl ?_
        intro w461 he462; have hS463 := St.go hS30 he462; clear hS30
        refine d_take (fun _ h => h) (fun _ _ h k => h k) (v := .agg #[.int .i64 mp0, .slice mp1A mp1.length mp1C, .slice mp2A mp2.length mp2C]) 0 rfl hE460 (S := fun w' => w'.heap[b5]? = some (.cells #[.int .i64 mp0, .slice mp1A mp1.length mp1C, .slice mp2A mp2.length mp2C] 69 (0, 0)) ∧ True) ⟨(St.row (i := 1) hS463 rfl _ (Ext.refl _)), trivial⟩ (y_loadS Try.underlying69 rfl (by kernel_rfl) rfl (fun _ h => h.1)) rfl rfl (by kernel_rfl) (by kernel_rfl) (by kernel_rfl) (by kernel_rfl) rfl rfl (fun _ _ _ h => h) ?_; intro a464 hE465; clear hE460
        refine d_pure (fun _ h => h) (v := .slice apA ((ap).length / 3 : Nat) apC) 1 rfl hE465 (y_move rfl) rfl (by kernel_rfl) (by kernel_rfl) (by kernel_rfl) rfl rfl (fun _ _ _ h => h) ?_; intro a466 hE467; clear hE465
        refine d_pure (fun _ h => h) (v := .slice worldsA worlds.length worldsC) 3 rfl hE467 (y_move rfl) rfl (by kernel_rfl) (by kernel_rfl) (by kernel_rfl) rfl rfl (fun _ _ _ h => h) ?_; intro a468 hE469; clear hE467
        refine d_only 2 (by kernel_rfl) rfl hE469 rfl (l_call (f := 165) (argv := [.slice apA ((ap).length / 3 : Nat) apC]) hE469 (fun _ => cf_l10Left _ _) rfl rfl (c_l10Left apA ((ap).length / 3 : Nat) apC ap w461 (St.rdR (i := 3) hS463 rfl) (by omega) (by omega) (IsPm.bin hf (by omega)).1) ?_)
        rintro _ w471 ⟨rfl, he475⟩ a472 hE473; clear hE469
        have hbn := IsPm.bin hf (by omega)
        have hS474 := St.go hS463 he475; clear hS463
        have hv479 := (St.rdR (i := 3) hS474 rfl).2.1
        have hv476 : (0 : Int) ≤ 1 ∧ 1 ≤ (F_l10End ap 1) ∧ (F_l10End ap 1) ≤ (((ap).length / 3 : Nat) : Int) := ⟨(by omega), (by omega), (by omega)⟩
        have hv477 : Int.toNat (F_l10End ap 1) - Int.toNat 1 = ((slI 3 ap 1 (F_l10End ap 1)).length / 3 : Nat) := ((slI_lenD (by decide) (St.rdR (i := 3) hS474 rfl).1 hv476.2.2)).symm
        have hv478 : Int.toNat (F_l10End ap 1) ≤ apC ∧ apC ≤ apC := ⟨by omega, by omega⟩
        refine ⟨fun _ _ => ⟨(St.row (i := 1) hS474 rfl _ (Ext.refl _)), trivial⟩, ?_⟩
        refine d_only 4 (by kernel_rfl) rfl hE473 rfl (l_call (f := 114) (argv := [.agg #[.int .i64 mp0, .slice mp1A mp1.length mp1C, .slice mp2A mp2.length mp2C], .slice (subA apA (Int.toNat 1) apC 3) ((slI 3 ap 1 (F_l10End ap 1)).length / 3 : Nat) (apC - (Int.toNat 1)), .slice worldsA worlds.length worldsC]) hE473 (fun _ => cf_l10Holds _ _) rfl rfl (ih mp0 mp1A mp1.length mp1C mp1 mp2A mp2.length mp2C mp2 (subA apA (Int.toNat 1) apC 3) ((slI 3 ap 1 (F_l10End ap 1)).length / 3 : Nat) (apC - (Int.toNat 1)) (slI 3 ap 1 (F_l10End ap 1)) worldsA worlds.length worldsC worlds w471 (St.rdR (i := 5) hS474 rfl) (St.rdR (i := 4) hS474 rfl) (RdS.sub (St.rdR (i := 3) hS474 rfl) apC hv476.1 hv476.2.1 hv476.2.2 hv478.1 hv478.2 hv477 rfl) (St.rdR (i := 2) hS474 rfl) (by omega) (by omega) (by omega) (Nat.le_trans (slI_le 3 _ _ _) hl) (by first | (with_reducible exact hbn.2.1.1) | (with_reducible exact hbn.2.1.2) | exact (IsPm.un hf (by omega)).1) (by first | assumption | (rw [sI_len]; assumption)) (by first | (have h9 := pm_frL hf (by omega) hfw; with_reducible exact h9) | (have h9 := pm_frR hf (by omega) hfw; with_reducible exact h9) | exact pm_frun hf (by omega) hfw (by omega) (by omega) (by omega) hag) (by first | (have h := hbn.2.2; omega) | (have h := (IsPm.un hf (by omega)).2; omega))) ?_)
        rintro _ w481 ⟨rfl, he485⟩ a482 hE483; clear hE473
        have hS484 := St.go hS474 he485; clear hS474
        refine ⟨fun h => Bool.noConfusion (h.symm.trans (show exm _ _ _ = true by kernel_rfl)), ?_⟩
        refine d_pure (fun _ h => h) (v := .bool (self mp0 mp1 mp2 (slI 3 ap 1 (F_l10End ap 1)) worlds)) 5 rfl hE483 (y_assign rfl) rfl (by kernel_rfl) (by kernel_rfl) (by kernel_rfl) rfl rfl (fun _ _ _ h => h) ?_; intro a486 hE487; clear hE483
        refine d_done (by kernel_rfl) ?_
        have hE488 := hE487.sub (L' := [(1, .slice apA ((ap).length / 3 : Nat) apC), (2, .slice worldsA worlds.length worldsC), (3, .pointer (some ⟨b5, 0, none⟩)), (7, .pointer (some ⟨b20, 0, none⟩)), (11, .bool (self mp0 mp1 mp2 (slI 3 ap 1 (F_l10End ap 1)) worlds))]) ⟨rfl, rfl, rfl, rfl, rfl, trivial⟩; clear hE487
        refine p_tn ?_
        refine c_seq ?_
        refine wp_block ?_
        refine c_seq ?_
        refine c_reg ?_
        refine q_step (v := .pointer (some ⟨b20, 0, none⟩)) hE488 (y_field rfl (fun _ => by kernel_rfl)) rfl rfl rfl ?_; intro a489 hE490; clear hE488
        refine q_step (v := .int .i64 (gS 3 0 ap 0)) hE490 (y_load (fun _ => by kernel_rfl) rfl (St.cell (i := 0) hS484 rfl rfl)) rfl rfl rfl ?_; intro a491 hE492; clear hE490
        refine q_step (v := .bool (decide ((gS 3 0 ap 0) = 4))) hE492 (y_eql rfl rfl) rfl rfl rfl ?_; intro a493 hE494; clear hE492
        refine q_step (v := .bool (decide ((gS 3 0 ap 0) = 4))) hE494 (y_move rfl) rfl rfl rfl ?_; intro a495 hE496; clear hE494
        rcases Bool.eq_false_or_eq_true (decide ((gS 3 0 ap 0) = 4)) with hb497 | hb497
        ·
         have hE498 := hE496; (try rw [hb497] at hE498); clear hE496
         have hp499 := of_decide_eq_true hb497
         refine q_step (v := .bool (self mp0 mp1 mp2 (slI 3 ap 1 (F_l10End ap 1)) worlds)) hE498 (y_move rfl) rfl rfl rfl ?_; intro a500 hE501; clear hE498
         refine q_step (v := .bool (!(self mp0 mp1 mp2 (slI 3 ap 1 (F_l10End ap 1)) worlds))) hE501 (y_not rfl) rfl rfl rfl ?_; intro a502 hE503; clear hE501
         refine q_step (v := .bool (!(self mp0 mp1 mp2 (slI 3 ap 1 (F_l10End ap 1)) worlds))) hE503 (y_pick (b := true) rfl rfl) rfl rfl rfl ?_; intro a504 hE505; clear hE503
         refine q_step (v := .bool (!(self mp0 mp1 mp2 (slI 3 ap 1 (F_l10End ap 1)) worlds))) hE505 (y_assign rfl) rfl rfl rfl ?_; intro a506 hE507; clear hE505
         refine c_nil ?_
         have hE508 := hE507.sub (L' := [(1, .slice apA ((ap).length / 3 : Nat) apC), (2, .slice worldsA worlds.length worldsC), (3, .pointer (some ⟨b5, 0, none⟩)), (7, .pointer (some ⟨b20, 0, none⟩)), (11, .bool (self mp0 mp1 mp2 (slI 3 ap 1 (F_l10End ap 1)) worlds)), (99, .bool (!(self mp0 mp1 mp2 (slI 3 ap 1 (F_l10End ap 1)) worlds)))]) ⟨rfl, rfl, rfl, rfl, rfl, rfl, trivial⟩; clear hE507
         refine p_tn ?_
         refine c_cond hE508 rfl (fun ht509 => ?_) (fun ht509 => ?_)
         ·
          have ht510 := bn_t ht509
          have hE511 := hE508; rw [ht509] at hE511; clear hE508
          refine c_seq ?_
          refine c_reg ?_
          refine q_step (v := .bool false) hE511 (y_assign rfl) rfl rfl rfl ?_; intro a512 hE513; clear hE511
          refine c_nil ?_
          have hE514 := hE513.sub (L' := [(6, .bool false)]) ⟨rfl, trivial⟩; clear hE513
          refine p_tn ?_
          refine wp_ret ?_
          refine p_br ?_
          refine p_tr ?_
          have hF : F_l10Holds_b self mp0 mp1 mp2 ap worlds = false := by unfold F_l10Holds_b; (first | (rw [ht509, hb497, ht328, ht190, ht177, ht133, ht95, ht43]; first | done | rfl) | (exfalso; omega))
          refine c_ret1 hE514 rfl rfl ?_
          exact ⟨(by rw [hF]; first | done | (dsimp only; done) | rfl), hS484.ext⟩
         ·
          have ht515 := bn_f ht509
          have hE516 := hE508; rw [ht509] at hE516; clear hE508
          refine c_seq ?_
          refine c_reg ?_
          refine q_step (v := .pointer (some ⟨b20, 0, none⟩)) hE516 (y_field rfl (fun _ => by kernel_rfl)) rfl rfl rfl ?_; intro a517 hE518; clear hE516
          refine q_step (v := .int .i64 (gS 3 0 ap 0)) hE518 (y_load (fun _ => by kernel_rfl) rfl (St.cell (i := 0) hS484 rfl rfl)) rfl rfl rfl ?_; intro a519 hE520; clear hE518
          refine q_step (v := .bool (decide ((gS 3 0 ap 0) = 5))) hE520 (y_eql rfl rfl) rfl rfl rfl ?_; intro a521 hE522; clear hE520
          refine q_step (v := .bool (decide ((gS 3 0 ap 0) = 5))) hE522 (y_move rfl) rfl rfl rfl ?_; intro a523 hE524; clear hE522
          rcases Bool.eq_false_or_eq_true (decide ((gS 3 0 ap 0) = 5)) with hb525 | hb525
          ·
           have hE526 := hE524; (try rw [hb525] at hE526); clear hE524
           have hp527 := of_decide_eq_true hb525
           refine q_step (v := .bool (self mp0 mp1 mp2 (slI 3 ap 1 (F_l10End ap 1)) worlds)) hE526 (y_move rfl) rfl rfl rfl ?_; intro a528 hE529; clear hE526
           refine q_step (v := .bool (self mp0 mp1 mp2 (slI 3 ap 1 (F_l10End ap 1)) worlds)) hE529 (y_pick (b := true) rfl rfl) rfl rfl rfl ?_; intro a530 hE531; clear hE529
           refine q_step (v := .bool (self mp0 mp1 mp2 (slI 3 ap 1 (F_l10End ap 1)) worlds)) hE531 (y_assign rfl) rfl rfl rfl ?_; intro a532 hE533; clear hE531
           refine c_nil ?_
           have hE534 := hE533.sub (L' := [(1, .slice apA ((ap).length / 3 : Nat) apC), (2, .slice worldsA worlds.length worldsC), (3, .pointer (some ⟨b5, 0, none⟩)), (7, .pointer (some ⟨b20, 0, none⟩)), (11, .bool (self mp0 mp1 mp2 (slI 3 ap 1 (F_l10End ap 1)) worlds)), (107, .bool (self mp0 mp1 mp2 (slI 3 ap 1 (F_l10End ap 1)) worlds))]) ⟨rfl, rfl, rfl, rfl, rfl, rfl, trivial⟩; clear hE533
           refine p_tn ?_
           refine c_cond hE534 rfl (fun ht535 => ?_) (fun ht535 => ?_)
           ·
            have hE536 := hE534; rw [ht535] at hE536; clear hE534
            refine c_seq ?_
            refine c_reg ?_
            refine q_step (v := .bool true) hE536 (y_assign rfl) rfl rfl rfl ?_; intro a537 hE538; clear hE536
            refine c_nil ?_
            have hE539 := hE538.sub (L' := [(6, .bool true)]) ⟨rfl, trivial⟩; clear hE538
            refine p_tn ?_
            refine wp_ret ?_
            refine p_br ?_
            refine p_tr ?_
            have hF : F_l10Holds_b self mp0 mp1 mp2 ap worlds = true := by unfold F_l10Holds_b; (first | (rw [ht535, hb525, ht509, hb497, ht328, ht190, ht177, ht133, ht95, ht43]; first | done | rfl) | (exfalso; omega))
            refine c_ret1 hE539 rfl rfl ?_
            exact ⟨(by rw [hF]; first | done | (dsimp only; done) | rfl), hS484.ext⟩
           ·
            have hE540 := hE534; rw [ht535] at hE540; clear hE534
            refine c_seq ?_
            refine c_reg ?_
            refine q_step (v := .pointer (some ⟨b20, 0, none⟩)) hE540 (y_field rfl (fun _ => by kernel_rfl)) rfl rfl rfl ?_; intro a541 hE542; clear hE540
            refine q_step (v := .int .i64 (gS 3 0 ap 0)) hE542 (y_load (fun _ => by kernel_rfl) rfl (St.cell (i := 0) hS484 rfl rfl)) rfl rfl rfl ?_; intro a543 hE544; clear hE542
            refine q_step (v := .bool (decide ((gS 3 0 ap 0) = 6))) hE544 (y_eql rfl rfl) rfl rfl rfl ?_; intro a545 hE546; clear hE544
            refine q_step (v := .bool (decide ((gS 3 0 ap 0) = 6))) hE546 (y_move rfl) rfl rfl rfl ?_; intro a547 hE548; clear hE546
            rcases Bool.eq_false_or_eq_true (decide ((gS 3 0 ap 0) = 6)) with hb549 | hb549
            ·
             have hE550 := hE548; (try rw [hb549] at hE550); clear hE548
             have hp551 := of_decide_eq_true hb549
             refine q_step (v := .bool false) hE550 (y_move rfl) rfl rfl rfl ?_; intro a552 hE553; clear hE550
             refine q_step (v := .bool (!false)) hE553 (y_not rfl) rfl rfl rfl ?_; intro a554 hE555; clear hE553
             refine q_step (v := .bool (!false)) hE555 (y_pick (b := true) rfl rfl) rfl rfl rfl ?_; intro a556 hE557; clear hE555
             refine q_step (v := .bool (!false)) hE557 (y_assign rfl) rfl rfl rfl ?_; intro a558 hE559; clear hE557
             refine c_nil ?_
             have hE560 := hE559.sub (L' := [(1, .slice apA ((ap).length / 3 : Nat) apC), (2, .slice worldsA worlds.length worldsC), (3, .pointer (some ⟨b5, 0, none⟩)), (114, .bool (!false))]) ⟨rfl, rfl, rfl, rfl, trivial⟩; clear hE559
             refine p_tn ?_
             refine c_cond hE560 rfl (fun ht561 => ?_) (fun ht561 => ?_)
             ·
              have ht562 := bn_t ht561
              have hE563 := hE560; rw [ht561] at hE563; clear hE560
              refine c_seq ?_
              refine c_reg ?_
              refine q_step (v := .bool true) hE563 (y_assign rfl) rfl rfl rfl ?_; intro a564 hE565; clear hE563
              refine c_nil ?_
              have hE566 := hE565.sub (L' := [(6, .bool true)]) ⟨rfl, trivial⟩; clear hE565
              refine p_tn ?_
              refine wp_ret ?_
              refine p_br ?_
              refine p_tr ?_
              have hF : F_l10Holds_b self mp0 mp1 mp2 ap worlds = true := by unfold F_l10Holds_b; (first | (rw [ht561, hb549, ht535, hb525, ht509, hb497, ht328, ht190, ht177, ht133, ht95, ht43]; first | done | rfl) | (exfalso; omega))
              refine c_ret1 hE566 rfl rfl ?_
              exact ⟨(by rw [hF]; first | done | (dsimp only; done) | rfl), hS484.ext⟩
             ·
              have ht567 := bn_f ht561
              have hE568 := hE560; rw [ht561] at hE568; clear hE560
              refine wp_skip ?_
              refine p_bn ?_
              refine p_tn ?_
              refine c_seq ?_
              refine d_start (fun w w' => (fun w' => w'.heap[b5]? = some (.cells #[.int .i64 mp0, .slice mp1A mp1.length mp1C, .slice mp2A mp2.length mp2C] 69 (0, 0)) ∧ True) w → (fun w' => w'.heap[b5]? = some (.cells #[.int .i64 mp0, .slice mp1A mp1.length mp1C, .slice mp2A mp2.length mp2C] 69 (0, 0)) ∧ True) w') [0] 6 (by kernel_rfl) rfl ?_
              intro w569 he570; have hS571 := St.go hS484 he570; clear hS484
              refine d_take (fun _ h => h) (fun _ _ h k => h k) (v := .agg #[.int .i64 mp0, .slice mp1A mp1.length mp1C, .slice mp2A mp2.length mp2C]) 0 rfl hE568 (S := fun w' => w'.heap[b5]? = some (.cells #[.int .i64 mp0, .slice mp1A mp1.length mp1C, .slice mp2A mp2.length mp2C] 69 (0, 0)) ∧ True) ⟨(St.row (i := 1) hS571 rfl _ (Ext.refl _)), trivial⟩ (y_loadS Try.underlying69 rfl (by kernel_rfl) rfl (fun _ h => h.1)) rfl rfl (by kernel_rfl) (by kernel_rfl) (by kernel_rfl) (by kernel_rfl) rfl rfl (fun _ _ _ h => h) ?_; intro a572 hE573; clear hE568
              refine d_pure (fun _ h => h) (v := .slice apA ((ap).length / 3 : Nat) apC) 1 rfl hE573 (y_move rfl) rfl (by kernel_rfl) (by kernel_rfl) (by kernel_rfl) rfl rfl (fun _ _ _ h => h) ?_; intro a574 hE575; clear hE573
              refine d_pure (fun _ h => h) (v := .slice worldsA worlds.length worldsC) 3 rfl hE575 (y_move rfl) rfl (by kernel_rfl) (by kernel_rfl) (by kernel_rfl) rfl rfl (fun _ _ _ h => h) ?_; intro a576 hE577; clear hE575
              refine d_only 2 (by kernel_rfl) rfl hE577 rfl (l_call (f := 166) (argv := [.slice apA ((ap).length / 3 : Nat) apC]) hE577 (fun _ => cf_l10Right _ _) rfl rfl (c_l10Right apA ((ap).length / 3 : Nat) apC ap w569 (St.rdR (i := 3) hS571 rfl) (by omega) (by omega) (IsPm.bin hf (by omega)).1) ?_)
              rintro _ w579 ⟨rfl, he583⟩ a580 hE581; clear hE577
              have hbn := IsPm.bin hf (by omega)
              have hS582 := St.go hS571 he583; clear hS571
              have hv587 := (St.rdR (i := 3) hS582 rfl).2.1
              have hv584 : (0 : Int) ≤ (F_l10End ap 1) ∧ (F_l10End ap 1) ≤ ((ap.length / 3 : Nat) : Int) ∧ ((ap.length / 3 : Nat) : Int) ≤ (((ap).length / 3 : Nat) : Int) := ⟨(by omega), (by omega), (by omega)⟩
              have hv585 : Int.toNat ((ap.length / 3 : Nat) : Int) - Int.toNat (F_l10End ap 1) = ((slI 3 ap (F_l10End ap 1) ((ap.length / 3 : Nat) : Int)).length / 3 : Nat) := ((slI_lenD (by decide) (St.rdR (i := 3) hS582 rfl).1 hv584.2.2)).symm
              have hv586 : Int.toNat ((ap.length / 3 : Nat) : Int) ≤ apC ∧ apC ≤ apC := ⟨by omega, by omega⟩
              refine ⟨fun _ _ => ⟨(St.row (i := 1) hS582 rfl _ (Ext.refl _)), trivial⟩, ?_⟩
              refine d_only 4 (by kernel_rfl) rfl hE581 rfl (l_call (f := 114) (argv := [.agg #[.int .i64 mp0, .slice mp1A mp1.length mp1C, .slice mp2A mp2.length mp2C], .slice (subA apA (Int.toNat (F_l10End ap 1)) apC 3) ((slI 3 ap (F_l10End ap 1) ((ap.length / 3 : Nat) : Int)).length / 3 : Nat) (apC - (Int.toNat (F_l10End ap 1))), .slice worldsA worlds.length worldsC]) hE581 (fun _ => cf_l10Holds _ _) rfl rfl (ih mp0 mp1A mp1.length mp1C mp1 mp2A mp2.length mp2C mp2 (subA apA (Int.toNat (F_l10End ap 1)) apC 3) ((slI 3 ap (F_l10End ap 1) ((ap.length / 3 : Nat) : Int)).length / 3 : Nat) (apC - (Int.toNat (F_l10End ap 1))) (slI 3 ap (F_l10End ap 1) ((ap.length / 3 : Nat) : Int)) worldsA worlds.length worldsC worlds w579 (St.rdR (i := 5) hS582 rfl) (St.rdR (i := 4) hS582 rfl) (RdS.sub (St.rdR (i := 3) hS582 rfl) apC hv584.1 hv584.2.1 hv584.2.2 hv586.1 hv586.2 hv585 rfl) (St.rdR (i := 2) hS582 rfl) (by omega) (by omega) (by omega) (Nat.le_trans (slI_le 3 _ _ _) hl) (by first | (with_reducible exact hbn.2.1.1) | (with_reducible exact hbn.2.1.2) | exact (IsPm.un hf (by omega)).1) (by first | assumption | (rw [sI_len]; assumption)) (by first | (have h9 := pm_frL hf (by omega) hfw; with_reducible exact h9) | (have h9 := pm_frR hf (by omega) hfw; with_reducible exact h9) | exact pm_frun hf (by omega) hfw (by omega) (by omega) (by omega) hag) (by first | (have h := hbn.2.2; omega) | (have h := (IsPm.un hf (by omega)).2; omega))) ?_)
              rintro _ w589 ⟨rfl, he593⟩ a590 hE591; clear hE581
              have hS592 := St.go hS582 he593; clear hS582
              refine ⟨fun h => Bool.noConfusion (h.symm.trans (show exm _ _ _ = true by kernel_rfl)), ?_⟩
              refine d_pure (fun _ h => h) (v := .bool (self mp0 mp1 mp2 (slI 3 ap (F_l10End ap 1) ((ap.length / 3 : Nat) : Int)) worlds)) 5 rfl hE591 (y_assign rfl) rfl (by kernel_rfl) (by kernel_rfl) (by kernel_rfl) rfl rfl (fun _ _ _ h => h) ?_; intro a594 hE595; clear hE591
              refine d_done (by kernel_rfl) ?_
              have hE596 := hE595.sub (L' := [(6, .bool (self mp0 mp1 mp2 (slI 3 ap (F_l10End ap 1) ((ap.length / 3 : Nat) : Int)) worlds))]) ⟨rfl, trivial⟩; clear hE595
              refine p_tn ?_
              refine wp_ret ?_
              have hF : F_l10Holds_b self mp0 mp1 mp2 ap worlds = self mp0 mp1 mp2 (slI 3 ap (F_l10End ap 1) ((ap.length / 3 : Nat) : Int)) worlds := by unfold F_l10Holds_b; (first | (rw [ht561, hb549, ht535, hb525, ht509, hb497, ht328, ht190, ht177, ht133, ht95, ht43]; first | done | rfl) | (exfalso; omega))
              refine c_ret1 hE596 rfl rfl ?_
              exact ⟨(by rw [hF]; first | done | (dsimp only; done) | rfl), hS592.ext⟩
            ·
             have hE597 := hE548; (try rw [hb549] at hE597); clear hE548
             have hp598 := of_decide_eq_false hb549
             refine q_skip hE597 rfl rfl rfl ?_; intro a599 hE600; clear hE597
             refine q_skip hE600 rfl rfl rfl ?_; intro a601 hE602; clear hE600
             refine q_step (v := .bool false) hE602 (y_pick (b := false) rfl rfl) rfl rfl rfl ?_; intro a603 hE604; clear hE602
             refine q_step (v := .bool false) hE604 (y_assign rfl) rfl rfl rfl ?_; intro a605 hE606; clear hE604
             refine c_nil ?_
             have hE607 := hE606.sub (L' := [(1, .slice apA ((ap).length / 3 : Nat) apC), (2, .slice worldsA worlds.length worldsC), (3, .pointer (some ⟨b5, 0, none⟩)), (114, .bool false)]) ⟨rfl, rfl, rfl, rfl, trivial⟩; clear hE606
             refine p_tn ?_
             refine c_false hE607 rfl ?_
             refine wp_skip ?_
             refine p_bn ?_
             refine p_tn ?_
             refine c_seq ?_
             refine d_start (fun w w' => (fun w' => w'.heap[b5]? = some (.cells #[.int .i64 mp0, .slice mp1A mp1.length mp1C, .slice mp2A mp2.length mp2C] 69 (0, 0)) ∧ True) w → (fun w' => w'.heap[b5]? = some (.cells #[.int .i64 mp0, .slice mp1A mp1.length mp1C, .slice mp2A mp2.length mp2C] 69 (0, 0)) ∧ True) w') [0] 6 (by kernel_rfl) rfl ?_
             intro w608 he609; have hS610 := St.go hS484 he609; clear hS484
             refine d_take (fun _ h => h) (fun _ _ h k => h k) (v := .agg #[.int .i64 mp0, .slice mp1A mp1.length mp1C, .slice mp2A mp2.length mp2C]) 0 rfl hE607 (S := fun w' => w'.heap[b5]? = some (.cells #[.int .i64 mp0, .slice mp1A mp1.length mp1C, .slice mp2A mp2.length mp2C] 69 (0, 0)) ∧ True) ⟨(St.row (i := 1) hS610 rfl _ (Ext.refl _)), trivial⟩ (y_loadS Try.underlying69 rfl (by kernel_rfl) rfl (fun _ h => h.1)) rfl rfl (by kernel_rfl) (by kernel_rfl) (by kernel_rfl) (by kernel_rfl) rfl rfl (fun _ _ _ h => h) ?_; intro a611 hE612; clear hE607
             refine d_pure (fun _ h => h) (v := .slice apA ((ap).length / 3 : Nat) apC) 1 rfl hE612 (y_move rfl) rfl (by kernel_rfl) (by kernel_rfl) (by kernel_rfl) rfl rfl (fun _ _ _ h => h) ?_; intro a613 hE614; clear hE612
             refine d_pure (fun _ h => h) (v := .slice worldsA worlds.length worldsC) 3 rfl hE614 (y_move rfl) rfl (by kernel_rfl) (by kernel_rfl) (by kernel_rfl) rfl rfl (fun _ _ _ h => h) ?_; intro a615 hE616; clear hE614
             refine d_only 2 (by kernel_rfl) rfl hE616 rfl (l_call (f := 166) (argv := [.slice apA ((ap).length / 3 : Nat) apC]) hE616 (fun _ => cf_l10Right _ _) rfl rfl (c_l10Right apA ((ap).length / 3 : Nat) apC ap w608 (St.rdR (i := 3) hS610 rfl) (by omega) (by omega) (IsPm.bin hf (by omega)).1) ?_)
             rintro _ w618 ⟨rfl, he622⟩ a619 hE620; clear hE616
             have hbn := IsPm.bin hf (by omega)
             have hS621 := St.go hS610 he622; clear hS610
             have hv626 := (St.rdR (i := 3) hS621 rfl).2.1
             have hv623 : (0 : Int) ≤ (F_l10End ap 1) ∧ (F_l10End ap 1) ≤ ((ap.length / 3 : Nat) : Int) ∧ ((ap.length / 3 : Nat) : Int) ≤ (((ap).length / 3 : Nat) : Int) := ⟨(by omega), (by omega), (by omega)⟩
             have hv624 : Int.toNat ((ap.length / 3 : Nat) : Int) - Int.toNat (F_l10End ap 1) = ((slI 3 ap (F_l10End ap 1) ((ap.length / 3 : Nat) : Int)).length / 3 : Nat) := ((slI_lenD (by decide) (St.rdR (i := 3) hS621 rfl).1 hv623.2.2)).symm
             have hv625 : Int.toNat ((ap.length / 3 : Nat) : Int) ≤ apC ∧ apC ≤ apC := ⟨by omega, by omega⟩
             refine ⟨fun _ _ => ⟨(St.row (i := 1) hS621 rfl _ (Ext.refl _)), trivial⟩, ?_⟩
             refine d_only 4 (by kernel_rfl) rfl hE620 rfl (l_call (f := 114) (argv := [.agg #[.int .i64 mp0, .slice mp1A mp1.length mp1C, .slice mp2A mp2.length mp2C], .slice (subA apA (Int.toNat (F_l10End ap 1)) apC 3) ((slI 3 ap (F_l10End ap 1) ((ap.length / 3 : Nat) : Int)).length / 3 : Nat) (apC - (Int.toNat (F_l10End ap 1))), .slice worldsA worlds.length worldsC]) hE620 (fun _ => cf_l10Holds _ _) rfl rfl (ih mp0 mp1A mp1.length mp1C mp1 mp2A mp2.length mp2C mp2 (subA apA (Int.toNat (F_l10End ap 1)) apC 3) ((slI 3 ap (F_l10End ap 1) ((ap.length / 3 : Nat) : Int)).length / 3 : Nat) (apC - (Int.toNat (F_l10End ap 1))) (slI 3 ap (F_l10End ap 1) ((ap.length / 3 : Nat) : Int)) worldsA worlds.length worldsC worlds w618 (St.rdR (i := 5) hS621 rfl) (St.rdR (i := 4) hS621 rfl) (RdS.sub (St.rdR (i := 3) hS621 rfl) apC hv623.1 hv623.2.1 hv623.2.2 hv625.1 hv625.2 hv624 rfl) (St.rdR (i := 2) hS621 rfl) (by omega) (by omega) (by omega) (Nat.le_trans (slI_le 3 _ _ _) hl) (by first | (with_reducible exact hbn.2.1.1) | (with_reducible exact hbn.2.1.2) | exact (IsPm.un hf (by omega)).1) (by first | assumption | (rw [sI_len]; assumption)) (by first | (have h9 := pm_frL hf (by omega) hfw; with_reducible exact h9) | (have h9 := pm_frR hf (by omega) hfw; with_reducible exact h9) | exact pm_frun hf (by omega) hfw (by omega) (by omega) (by omega) hag) (by first | (have h := hbn.2.2; omega) | (have h := (IsPm.un hf (by omega)).2; omega))) ?_)
             rintro _ w628 ⟨rfl, he632⟩ a629 hE630; clear hE620
             have hS631 := St.go hS621 he632; clear hS621
             refine ⟨fun h => Bool.noConfusion (h.symm.trans (show exm _ _ _ = true by kernel_rfl)), ?_⟩
             refine d_pure (fun _ h => h) (v := .bool (self mp0 mp1 mp2 (slI 3 ap (F_l10End ap 1) ((ap.length / 3 : Nat) : Int)) worlds)) 5 rfl hE630 (y_assign rfl) rfl (by kernel_rfl) (by kernel_rfl) (by kernel_rfl) rfl rfl (fun _ _ _ h => h) ?_; intro a633 hE634; clear hE630
             refine d_done (by kernel_rfl) ?_
             have hE635 := hE634.sub (L' := [(6, .bool (self mp0 mp1 mp2 (slI 3 ap (F_l10End ap 1) ((ap.length / 3 : Nat) : Int)) worlds))]) ⟨rfl, trivial⟩; clear hE634
             refine p_tn ?_
             refine wp_ret ?_
             have hF : F_l10Holds_b self mp0 mp1 mp2 ap worlds = self mp0 mp1 mp2 (slI 3 ap (F_l10End ap 1) ((ap.length / 3 : Nat) : Int)) worlds := by unfold F_l10Holds_b; (first | (rw [hb549, ht535, hb525, ht509, hb497, ht328, ht190, ht177, ht133, ht95, ht43]; first | done | rfl) | (exfalso; omega))
             refine c_ret1 hE635 rfl rfl ?_
             exact ⟨(by rw [hF]; first | done | (dsimp only; done) | rfl), hS631.ext⟩
          ·
           have hE636 := hE524; (try rw [hb525] at hE636); clear hE524
           have hp637 := of_decide_eq_false hb525
           refine q_skip hE636 rfl rfl rfl ?_; intro a638 hE639; clear hE636
           refine q_step (v := .bool false) hE639 (y_pick (b := false) rfl rfl) rfl rfl rfl ?_; intro a640 hE641; clear hE639
           refine q_step (v := .bool false) hE641 (y_assign rfl) rfl rfl rfl ?_; intro a642 hE643; clear hE641
           refine c_nil ?_
           have hE644 := hE643.sub (L' := [(1, .slice apA ((ap).length / 3 : Nat) apC), (2, .slice worldsA worlds.length worldsC), (3, .pointer (some ⟨b5, 0, none⟩)), (7, .pointer (some ⟨b20, 0, none⟩)), (11, .bool (self mp0 mp1 mp2 (slI 3 ap 1 (F_l10End ap 1)) worlds)), (107, .bool false)]) ⟨rfl, rfl, rfl, rfl, rfl, rfl, trivial⟩; clear hE643
           refine p_tn ?_
           refine c_false hE644 rfl ?_
           refine c_seq ?_
           refine c_reg ?_
           refine q_step (v := .pointer (some ⟨b20, 0, none⟩)) hE644 (y_field rfl (fun _ => by kernel_rfl)) rfl rfl rfl ?_; intro a645 hE646; clear hE644
           refine q_step (v := .int .i64 (gS 3 0 ap 0)) hE646 (y_load (fun _ => by kernel_rfl) rfl (St.cell (i := 0) hS484 rfl rfl)) rfl rfl rfl ?_; intro a647 hE648; clear hE646
           refine q_step (v := .bool (decide ((gS 3 0 ap 0) = 6))) hE648 (y_eql rfl rfl) rfl rfl rfl ?_; intro a649 hE650; clear hE648
           refine q_step (v := .bool (decide ((gS 3 0 ap 0) = 6))) hE650 (y_move rfl) rfl rfl rfl ?_; intro a651 hE652; clear hE650
           rcases Bool.eq_false_or_eq_true (decide ((gS 3 0 ap 0) = 6)) with hb653 | hb653
           ·
            have hE654 := hE652; (try rw [hb653] at hE654); clear hE652
            have hp655 := of_decide_eq_true hb653
            refine q_step (v := .bool (self mp0 mp1 mp2 (slI 3 ap 1 (F_l10End ap 1)) worlds)) hE654 (y_move rfl) rfl rfl rfl ?_; intro a656 hE657; clear hE654
            refine q_step (v := .bool (!(self mp0 mp1 mp2 (slI 3 ap 1 (F_l10End ap 1)) worlds))) hE657 (y_not rfl) rfl rfl rfl ?_; intro a658 hE659; clear hE657
            refine q_step (v := .bool (!(self mp0 mp1 mp2 (slI 3 ap 1 (F_l10End ap 1)) worlds))) hE659 (y_pick (b := true) rfl rfl) rfl rfl rfl ?_; intro a660 hE661; clear hE659
            refine q_step (v := .bool (!(self mp0 mp1 mp2 (slI 3 ap 1 (F_l10End ap 1)) worlds))) hE661 (y_assign rfl) rfl rfl rfl ?_; intro a662 hE663; clear hE661
            refine c_nil ?_
            have hE664 := hE663.sub (L' := [(1, .slice apA ((ap).length / 3 : Nat) apC), (2, .slice worldsA worlds.length worldsC), (3, .pointer (some ⟨b5, 0, none⟩)), (114, .bool (!(self mp0 mp1 mp2 (slI 3 ap 1 (F_l10End ap 1)) worlds)))]) ⟨rfl, rfl, rfl, rfl, trivial⟩; clear hE663
            refine p_tn ?_
            have hE665 := hE664; rw [ht509] at hE665; clear hE664
            refine c_false hE665 rfl ?_
            refine wp_skip ?_
            refine p_bn ?_
            refine p_tn ?_
            refine c_seq ?_
            refine d_start (fun w w' => (fun w' => w'.heap[b5]? = some (.cells #[.int .i64 mp0, .slice mp1A mp1.length mp1C, .slice mp2A mp2.length mp2C] 69 (0, 0)) ∧ True) w → (fun w' => w'.heap[b5]? = some (.cells #[.int .i64 mp0, .slice mp1A mp1.length mp1C, .slice mp2A mp2.length mp2C] 69 (0, 0)) ∧ True) w') [0] 6 (by kernel_rfl) rfl ?_
            intro w666 he667; have hS668 := St.go hS484 he667; clear hS484
            refine d_take (fun _ h => h) (fun _ _ h k => h k) (v := .agg #[.int .i64 mp0, .slice mp1A mp1.length mp1C, .slice mp2A mp2.length mp2C]) 0 rfl hE665 (S := fun w' => w'.heap[b5]? = some (.cells #[.int .i64 mp0, .slice mp1A mp1.length mp1C, .slice mp2A mp2.length mp2C] 69 (0, 0)) ∧ True) ⟨(St.row (i := 1) hS668 rfl _ (Ext.refl _)), trivial⟩ (y_loadS Try.underlying69 rfl (by kernel_rfl) rfl (fun _ h => h.1)) rfl rfl (by kernel_rfl) (by kernel_rfl) (by kernel_rfl) (by kernel_rfl) rfl rfl (fun _ _ _ h => h) ?_; intro a669 hE670; clear hE665
            refine d_pure (fun _ h => h) (v := .slice apA ((ap).length / 3 : Nat) apC) 1 rfl hE670 (y_move rfl) rfl (by kernel_rfl) (by kernel_rfl) (by kernel_rfl) rfl rfl (fun _ _ _ h => h) ?_; intro a671 hE672; clear hE670
            refine d_pure (fun _ h => h) (v := .slice worldsA worlds.length worldsC) 3 rfl hE672 (y_move rfl) rfl (by kernel_rfl) (by kernel_rfl) (by kernel_rfl) rfl rfl (fun _ _ _ h => h) ?_; intro a673 hE674; clear hE672
            refine d_only 2 (by kernel_rfl) rfl hE674 rfl (l_call (f := 166) (argv := [.slice apA ((ap).length / 3 : Nat) apC]) hE674 (fun _ => cf_l10Right _ _) rfl rfl (c_l10Right apA ((ap).length / 3 : Nat) apC ap w666 (St.rdR (i := 3) hS668 rfl) (by omega) (by omega) (IsPm.bin hf (by omega)).1) ?_)
            rintro _ w676 ⟨rfl, he680⟩ a677 hE678; clear hE674
            have hbn := IsPm.bin hf (by omega)
            have hS679 := St.go hS668 he680; clear hS668
            have hv684 := (St.rdR (i := 3) hS679 rfl).2.1
            have hv681 : (0 : Int) ≤ (F_l10End ap 1) ∧ (F_l10End ap 1) ≤ ((ap.length / 3 : Nat) : Int) ∧ ((ap.length / 3 : Nat) : Int) ≤ (((ap).length / 3 : Nat) : Int) := ⟨(by omega), (by omega), (by omega)⟩
            have hv682 : Int.toNat ((ap.length / 3 : Nat) : Int) - Int.toNat (F_l10End ap 1) = ((slI 3 ap (F_l10End ap 1) ((ap.length / 3 : Nat) : Int)).length / 3 : Nat) := ((slI_lenD (by decide) (St.rdR (i := 3) hS679 rfl).1 hv681.2.2)).symm
            have hv683 : Int.toNat ((ap.length / 3 : Nat) : Int) ≤ apC ∧ apC ≤ apC := ⟨by omega, by omega⟩
            refine ⟨fun _ _ => ⟨(St.row (i := 1) hS679 rfl _ (Ext.refl _)), trivial⟩, ?_⟩
            refine d_only 4 (by kernel_rfl) rfl hE678 rfl (l_call (f := 114) (argv := [.agg #[.int .i64 mp0, .slice mp1A mp1.length mp1C, .slice mp2A mp2.length mp2C], .slice (subA apA (Int.toNat (F_l10End ap 1)) apC 3) ((slI 3 ap (F_l10End ap 1) ((ap.length / 3 : Nat) : Int)).length / 3 : Nat) (apC - (Int.toNat (F_l10End ap 1))), .slice worldsA worlds.length worldsC]) hE678 (fun _ => cf_l10Holds _ _) rfl rfl (ih mp0 mp1A mp1.length mp1C mp1 mp2A mp2.length mp2C mp2 (subA apA (Int.toNat (F_l10End ap 1)) apC 3) ((slI 3 ap (F_l10End ap 1) ((ap.length / 3 : Nat) : Int)).length / 3 : Nat) (apC - (Int.toNat (F_l10End ap 1))) (slI 3 ap (F_l10End ap 1) ((ap.length / 3 : Nat) : Int)) worldsA worlds.length worldsC worlds w676 (St.rdR (i := 5) hS679 rfl) (St.rdR (i := 4) hS679 rfl) (RdS.sub (St.rdR (i := 3) hS679 rfl) apC hv681.1 hv681.2.1 hv681.2.2 hv683.1 hv683.2 hv682 rfl) (St.rdR (i := 2) hS679 rfl) (by omega) (by omega) (by omega) (Nat.le_trans (slI_le 3 _ _ _) hl) (by first | (with_reducible exact hbn.2.1.1) | (with_reducible exact hbn.2.1.2) | exact (IsPm.un hf (by omega)).1) (by first | assumption | (rw [sI_len]; assumption)) (by first | (have h9 := pm_frL hf (by omega) hfw; with_reducible exact h9) | (have h9 := pm_frR hf (by omega) hfw; with_reducible exact h9) | exact pm_frun hf (by omega) hfw (by omega) (by omega) (by omega) hag) (by first | (have h := hbn.2.2; omega) | (have h := (IsPm.un hf (by omega)).2; omega))) ?_)
            rintro _ w686 ⟨rfl, he690⟩ a687 hE688; clear hE678
            have hS689 := St.go hS679 he690; clear hS679
            refine ⟨fun h => Bool.noConfusion (h.symm.trans (show exm _ _ _ = true by kernel_rfl)), ?_⟩
            refine d_pure (fun _ h => h) (v := .bool (self mp0 mp1 mp2 (slI 3 ap (F_l10End ap 1) ((ap.length / 3 : Nat) : Int)) worlds)) 5 rfl hE688 (y_assign rfl) rfl (by kernel_rfl) (by kernel_rfl) (by kernel_rfl) rfl rfl (fun _ _ _ h => h) ?_; intro a691 hE692; clear hE688
            refine d_done (by kernel_rfl) ?_
            have hE693 := hE692.sub (L' := [(6, .bool (self mp0 mp1 mp2 (slI 3 ap (F_l10End ap 1) ((ap.length / 3 : Nat) : Int)) worlds))]) ⟨rfl, trivial⟩; clear hE692
            refine p_tn ?_
            refine wp_ret ?_
            have hF : F_l10Holds_b self mp0 mp1 mp2 ap worlds = self mp0 mp1 mp2 (slI 3 ap (F_l10End ap 1) ((ap.length / 3 : Nat) : Int)) worlds := by unfold F_l10Holds_b; (first | (rw [hb653, hb525, ht509, hb497, ht328, ht190, ht177, ht133, ht95, ht43]; first | done | rfl) | (exfalso; omega))
            refine c_ret1 hE693 rfl rfl ?_
            exact ⟨(by rw [hF]; first | done | (dsimp only; done) | rfl), hS689.ext⟩
           ·
            have hE694 := hE652; (try rw [hb653] at hE694); clear hE652
            have hp695 := of_decide_eq_false hb653
            refine q_skip hE694 rfl rfl rfl ?_; intro a696 hE697; clear hE694
            refine q_skip hE697 rfl rfl rfl ?_; intro a698 hE699; clear hE697
            refine q_step (v := .bool false) hE699 (y_pick (b := false) rfl rfl) rfl rfl rfl ?_; intro a700 hE701; clear hE699
            refine q_step (v := .bool false) hE701 (y_assign rfl) rfl rfl rfl ?_; intro a702 hE703; clear hE701
            refine c_nil ?_
            have hE704 := hE703.sub (L' := [(1, .slice apA ((ap).length / 3 : Nat) apC), (2, .slice worldsA worlds.length worldsC), (3, .pointer (some ⟨b5, 0, none⟩)), (114, .bool false)]) ⟨rfl, rfl, rfl, rfl, trivial⟩; clear hE703
            refine p_tn ?_
            refine c_false hE704 rfl ?_
            refine wp_skip ?_
            refine p_bn ?_
            refine p_tn ?_
            refine c_seq ?_
            refine d_start (fun w w' => (fun w' => w'.heap[b5]? = some (.cells #[.int .i64 mp0, .slice mp1A mp1.length mp1C, .slice mp2A mp2.length mp2C] 69 (0, 0)) ∧ True) w → (fun w' => w'.heap[b5]? = some (.cells #[.int .i64 mp0, .slice mp1A mp1.length mp1C, .slice mp2A mp2.length mp2C] 69 (0, 0)) ∧ True) w') [0] 6 (by kernel_rfl) rfl ?_
            intro w705 he706; have hS707 := St.go hS484 he706; clear hS484
            refine d_take (fun _ h => h) (fun _ _ h k => h k) (v := .agg #[.int .i64 mp0, .slice mp1A mp1.length mp1C, .slice mp2A mp2.length mp2C]) 0 rfl hE704 (S := fun w' => w'.heap[b5]? = some (.cells #[.int .i64 mp0, .slice mp1A mp1.length mp1C, .slice mp2A mp2.length mp2C] 69 (0, 0)) ∧ True) ⟨(St.row (i := 1) hS707 rfl _ (Ext.refl _)), trivial⟩ (y_loadS Try.underlying69 rfl (by kernel_rfl) rfl (fun _ h => h.1)) rfl rfl (by kernel_rfl) (by kernel_rfl) (by kernel_rfl) (by kernel_rfl) rfl rfl (fun _ _ _ h => h) ?_; intro a708 hE709; clear hE704
            refine d_pure (fun _ h => h) (v := .slice apA ((ap).length / 3 : Nat) apC) 1 rfl hE709 (y_move rfl) rfl (by kernel_rfl) (by kernel_rfl) (by kernel_rfl) rfl rfl (fun _ _ _ h => h) ?_; intro a710 hE711; clear hE709
            refine d_pure (fun _ h => h) (v := .slice worldsA worlds.length worldsC) 3 rfl hE711 (y_move rfl) rfl (by kernel_rfl) (by kernel_rfl) (by kernel_rfl) rfl rfl (fun _ _ _ h => h) ?_; intro a712 hE713; clear hE711
            refine d_only 2 (by kernel_rfl) rfl hE713 rfl (l_call (f := 166) (argv := [.slice apA ((ap).length / 3 : Nat) apC]) hE713 (fun _ => cf_l10Right _ _) rfl rfl (c_l10Right apA ((ap).length / 3 : Nat) apC ap w705 (St.rdR (i := 3) hS707 rfl) (by omega) (by omega) (IsPm.bin hf (by omega)).1) ?_)
            rintro _ w715 ⟨rfl, he719⟩ a716 hE717; clear hE713
            have hbn := IsPm.bin hf (by omega)
            have hS718 := St.go hS707 he719; clear hS707
            have hv723 := (St.rdR (i := 3) hS718 rfl).2.1
            have hv720 : (0 : Int) ≤ (F_l10End ap 1) ∧ (F_l10End ap 1) ≤ ((ap.length / 3 : Nat) : Int) ∧ ((ap.length / 3 : Nat) : Int) ≤ (((ap).length / 3 : Nat) : Int) := ⟨(by omega), (by omega), (by omega)⟩
            have hv721 : Int.toNat ((ap.length / 3 : Nat) : Int) - Int.toNat (F_l10End ap 1) = ((slI 3 ap (F_l10End ap 1) ((ap.length / 3 : Nat) : Int)).length / 3 : Nat) := ((slI_lenD (by decide) (St.rdR (i := 3) hS718 rfl).1 hv720.2.2)).symm
            have hv722 : Int.toNat ((ap.length / 3 : Nat) : Int) ≤ apC ∧ apC ≤ apC := ⟨by omega, by omega⟩
            refine ⟨fun _ _ => ⟨(St.row (i := 1) hS718 rfl _ (Ext.refl _)), trivial⟩, ?_⟩
            refine d_only 4 (by kernel_rfl) rfl hE717 rfl (l_call (f := 114) (argv := [.agg #[.int .i64 mp0, .slice mp1A mp1.length mp1C, .slice mp2A mp2.length mp2C], .slice (subA apA (Int.toNat (F_l10End ap 1)) apC 3) ((slI 3 ap (F_l10End ap 1) ((ap.length / 3 : Nat) : Int)).length / 3 : Nat) (apC - (Int.toNat (F_l10End ap 1))), .slice worldsA worlds.length worldsC]) hE717 (fun _ => cf_l10Holds _ _) rfl rfl (ih mp0 mp1A mp1.length mp1C mp1 mp2A mp2.length mp2C mp2 (subA apA (Int.toNat (F_l10End ap 1)) apC 3) ((slI 3 ap (F_l10End ap 1) ((ap.length / 3 : Nat) : Int)).length / 3 : Nat) (apC - (Int.toNat (F_l10End ap 1))) (slI 3 ap (F_l10End ap 1) ((ap.length / 3 : Nat) : Int)) worldsA worlds.length worldsC worlds w715 (St.rdR (i := 5) hS718 rfl) (St.rdR (i := 4) hS718 rfl) (RdS.sub (St.rdR (i := 3) hS718 rfl) apC hv720.1 hv720.2.1 hv720.2.2 hv722.1 hv722.2 hv721 rfl) (St.rdR (i := 2) hS718 rfl) (by omega) (by omega) (by omega) (Nat.le_trans (slI_le 3 _ _ _) hl) (by first | (with_reducible exact hbn.2.1.1) | (with_reducible exact hbn.2.1.2) | exact (IsPm.un hf (by omega)).1) (by first | assumption | (rw [sI_len]; assumption)) (by first | (have h9 := pm_frL hf (by omega) hfw; with_reducible exact h9) | (have h9 := pm_frR hf (by omega) hfw; with_reducible exact h9) | exact pm_frun hf (by omega) hfw (by omega) (by omega) (by omega) hag) (by first | (have h := hbn.2.2; omega) | (have h := (IsPm.un hf (by omega)).2; omega))) ?_)
            rintro _ w725 ⟨rfl, he729⟩ a726 hE727; clear hE717
            have hS728 := St.go hS718 he729; clear hS718
            refine ⟨fun h => Bool.noConfusion (h.symm.trans (show exm _ _ _ = true by kernel_rfl)), ?_⟩
            refine d_pure (fun _ h => h) (v := .bool (self mp0 mp1 mp2 (slI 3 ap (F_l10End ap 1) ((ap.length / 3 : Nat) : Int)) worlds)) 5 rfl hE727 (y_assign rfl) rfl (by kernel_rfl) (by kernel_rfl) (by kernel_rfl) rfl rfl (fun _ _ _ h => h) ?_; intro a730 hE731; clear hE727
            refine d_done (by kernel_rfl) ?_
            have hE732 := hE731.sub (L' := [(6, .bool (self mp0 mp1 mp2 (slI 3 ap (F_l10End ap 1) ((ap.length / 3 : Nat) : Int)) worlds))]) ⟨rfl, trivial⟩; clear hE731
            refine p_tn ?_
            refine wp_ret ?_
            have hF : F_l10Holds_b self mp0 mp1 mp2 ap worlds = self mp0 mp1 mp2 (slI 3 ap (F_l10End ap 1) ((ap.length / 3 : Nat) : Int)) worlds := by unfold F_l10Holds_b; (first | (rw [hb653, hb525, ht509, hb497, ht328, ht190, ht177, ht133, ht95, ht43]; first | done | rfl) | (exfalso; omega))
            refine c_ret1 hE732 rfl rfl ?_
            exact ⟨(by rw [hF]; first | done | (dsimp only; done) | rfl), hS728.ext⟩
        ·
         have hE733 := hE496; (try rw [hb497] at hE733); clear hE496
         have hp734 := of_decide_eq_false hb497
         refine q_skip hE733 rfl rfl rfl ?_; intro a735 hE736; clear hE733
         refine q_skip hE736 rfl rfl rfl ?_; intro a737 hE738; clear hE736
         refine q_step (v := .bool false) hE738 (y_pick (b := false) rfl rfl) rfl rfl rfl ?_; intro a739 hE740; clear hE738
         refine q_step (v := .bool false) hE740 (y_assign rfl) rfl rfl rfl ?_; intro a741 hE742; clear hE740
         refine c_nil ?_
         have hE743 := hE742.sub (L' := [(1, .slice apA ((ap).length / 3 : Nat) apC), (2, .slice worldsA worlds.length worldsC), (3, .pointer (some ⟨b5, 0, none⟩)), (7, .pointer (some ⟨b20, 0, none⟩)), (11, .bool (self mp0 mp1 mp2 (slI 3 ap 1 (F_l10End ap 1)) worlds)), (99, .bool false)]) ⟨rfl, rfl, rfl, rfl, rfl, rfl, trivial⟩; clear hE742
         refine p_tn ?_
         refine c_false hE743 rfl ?_
         refine c_seq ?_
         refine c_reg ?_
         refine q_step (v := .pointer (some ⟨b20, 0, none⟩)) hE743 (y_field rfl (fun _ => by kernel_rfl)) rfl rfl rfl ?_; intro a744 hE745; clear hE743
         refine q_step (v := .int .i64 (gS 3 0 ap 0)) hE745 (y_load (fun _ => by kernel_rfl) rfl (St.cell (i := 0) hS484 rfl rfl)) rfl rfl rfl ?_; intro a746 hE747; clear hE745
         refine q_step (v := .bool (decide ((gS 3 0 ap 0) = 5))) hE747 (y_eql rfl rfl) rfl rfl rfl ?_; intro a748 hE749; clear hE747
         refine q_step (v := .bool (decide ((gS 3 0 ap 0) = 5))) hE749 (y_move rfl) rfl rfl rfl ?_; intro a750 hE751; clear hE749
         rcases Bool.eq_false_or_eq_true (decide ((gS 3 0 ap 0) = 5)) with hb752 | hb752
         ·
          have hE753 := hE751; (try rw [hb752] at hE753); clear hE751
          have hp754 := of_decide_eq_true hb752
          refine q_step (v := .bool (self mp0 mp1 mp2 (slI 3 ap 1 (F_l10End ap 1)) worlds)) hE753 (y_move rfl) rfl rfl rfl ?_; intro a755 hE756; clear hE753
          refine q_step (v := .bool (self mp0 mp1 mp2 (slI 3 ap 1 (F_l10End ap 1)) worlds)) hE756 (y_pick (b := true) rfl rfl) rfl rfl rfl ?_; intro a757 hE758; clear hE756
          refine q_step (v := .bool (self mp0 mp1 mp2 (slI 3 ap 1 (F_l10End ap 1)) worlds)) hE758 (y_assign rfl) rfl rfl rfl ?_; intro a759 hE760; clear hE758
          refine c_nil ?_
          have hE761 := hE760.sub (L' := [(1, .slice apA ((ap).length / 3 : Nat) apC), (2, .slice worldsA worlds.length worldsC), (3, .pointer (some ⟨b5, 0, none⟩)), (7, .pointer (some ⟨b20, 0, none⟩)), (11, .bool (self mp0 mp1 mp2 (slI 3 ap 1 (F_l10End ap 1)) worlds)), (107, .bool (self mp0 mp1 mp2 (slI 3 ap 1 (F_l10End ap 1)) worlds))]) ⟨rfl, rfl, rfl, rfl, rfl, rfl, trivial⟩; clear hE760
          refine p_tn ?_
          refine c_cond hE761 rfl (fun ht762 => ?_) (fun ht762 => ?_)
          ·
           have hE763 := hE761; rw [ht762] at hE763; clear hE761
           refine c_seq ?_
           refine c_reg ?_
           refine q_step (v := .bool true) hE763 (y_assign rfl) rfl rfl rfl ?_; intro a764 hE765; clear hE763
           refine c_nil ?_
           have hE766 := hE765.sub (L' := [(6, .bool true)]) ⟨rfl, trivial⟩; clear hE765
           refine p_tn ?_
           refine wp_ret ?_
           refine p_br ?_
           refine p_tr ?_
           have hF : F_l10Holds_b self mp0 mp1 mp2 ap worlds = true := by unfold F_l10Holds_b; (first | (rw [ht762, hb752, hb497, ht328, ht190, ht177, ht133, ht95, ht43]; first | done | rfl) | (exfalso; omega))
           refine c_ret1 hE766 rfl rfl ?_
           exact ⟨(by rw [hF]; first | done | (dsimp only; done) | rfl), hS484.ext⟩
          ·
           have hE767 := hE761; rw [ht762] at hE767; clear hE761
           refine c_seq ?_
           refine c_reg ?_
           refine q_step (v := .pointer (some ⟨b20, 0, none⟩)) hE767 (y_field rfl (fun _ => by kernel_rfl)) rfl rfl rfl ?_; intro a768 hE769; clear hE767
           refine q_step (v := .int .i64 (gS 3 0 ap 0)) hE769 (y_load (fun _ => by kernel_rfl) rfl (St.cell (i := 0) hS484 rfl rfl)) rfl rfl rfl ?_; intro a770 hE771; clear hE769
           refine q_step (v := .bool (decide ((gS 3 0 ap 0) = 6))) hE771 (y_eql rfl rfl) rfl rfl rfl ?_; intro a772 hE773; clear hE771
           refine q_step (v := .bool (decide ((gS 3 0 ap 0) = 6))) hE773 (y_move rfl) rfl rfl rfl ?_; intro a774 hE775; clear hE773
           rcases Bool.eq_false_or_eq_true (decide ((gS 3 0 ap 0) = 6)) with hb776 | hb776
           ·
            have hE777 := hE775; (try rw [hb776] at hE777); clear hE775
            have hp778 := of_decide_eq_true hb776
            refine q_step (v := .bool false) hE777 (y_move rfl) rfl rfl rfl ?_; intro a779 hE780; clear hE777
            refine q_step (v := .bool (!false)) hE780 (y_not rfl) rfl rfl rfl ?_; intro a781 hE782; clear hE780
            refine q_step (v := .bool (!false)) hE782 (y_pick (b := true) rfl rfl) rfl rfl rfl ?_; intro a783 hE784; clear hE782
            refine q_step (v := .bool (!false)) hE784 (y_assign rfl) rfl rfl rfl ?_; intro a785 hE786; clear hE784
            refine c_nil ?_
            have hE787 := hE786.sub (L' := [(1, .slice apA ((ap).length / 3 : Nat) apC), (2, .slice worldsA worlds.length worldsC), (3, .pointer (some ⟨b5, 0, none⟩)), (114, .bool (!false))]) ⟨rfl, rfl, rfl, rfl, trivial⟩; clear hE786
            refine p_tn ?_
            refine c_cond hE787 rfl (fun ht788 => ?_) (fun ht788 => ?_)
            ·
             have ht789 := bn_t ht788
             have hE790 := hE787; rw [ht788] at hE790; clear hE787
             refine c_seq ?_
             refine c_reg ?_
             refine q_step (v := .bool true) hE790 (y_assign rfl) rfl rfl rfl ?_; intro a791 hE792; clear hE790
             refine c_nil ?_
             have hE793 := hE792.sub (L' := [(6, .bool true)]) ⟨rfl, trivial⟩; clear hE792
             refine p_tn ?_
             refine wp_ret ?_
             refine p_br ?_
             refine p_tr ?_
             have hF : F_l10Holds_b self mp0 mp1 mp2 ap worlds = true := by unfold F_l10Holds_b; (first | (rw [ht788, hb776, ht762, hb752, hb497, ht328, ht190, ht177, ht133, ht95, ht43]; first | done | rfl) | (exfalso; omega))
             refine c_ret1 hE793 rfl rfl ?_
             exact ⟨(by rw [hF]; first | done | (dsimp only; done) | rfl), hS484.ext⟩
            ·
             have ht794 := bn_f ht788
             have hE795 := hE787; rw [ht788] at hE795; clear hE787
             refine wp_skip ?_
             refine p_bn ?_
             refine p_tn ?_
             refine c_seq ?_
             refine d_start (fun w w' => (fun w' => w'.heap[b5]? = some (.cells #[.int .i64 mp0, .slice mp1A mp1.length mp1C, .slice mp2A mp2.length mp2C] 69 (0, 0)) ∧ True) w → (fun w' => w'.heap[b5]? = some (.cells #[.int .i64 mp0, .slice mp1A mp1.length mp1C, .slice mp2A mp2.length mp2C] 69 (0, 0)) ∧ True) w') [0] 6 (by kernel_rfl) rfl ?_
             intro w796 he797; have hS798 := St.go hS484 he797; clear hS484
             refine d_take (fun _ h => h) (fun _ _ h k => h k) (v := .agg #[.int .i64 mp0, .slice mp1A mp1.length mp1C, .slice mp2A mp2.length mp2C]) 0 rfl hE795 (S := fun w' => w'.heap[b5]? = some (.cells #[.int .i64 mp0, .slice mp1A mp1.length mp1C, .slice mp2A mp2.length mp2C] 69 (0, 0)) ∧ True) ⟨(St.row (i := 1) hS798 rfl _ (Ext.refl _)), trivial⟩ (y_loadS Try.underlying69 rfl (by kernel_rfl) rfl (fun _ h => h.1)) rfl rfl (by kernel_rfl) (by kernel_rfl) (by kernel_rfl) (by kernel_rfl) rfl rfl (fun _ _ _ h => h) ?_; intro a799 hE800; clear hE795
             refine d_pure (fun _ h => h) (v := .slice apA ((ap).length / 3 : Nat) apC) 1 rfl hE800 (y_move rfl) rfl (by kernel_rfl) (by kernel_rfl) (by kernel_rfl) rfl rfl (fun _ _ _ h => h) ?_; intro a801 hE802; clear hE800
             refine d_pure (fun _ h => h) (v := .slice worldsA worlds.length worldsC) 3 rfl hE802 (y_move rfl) rfl (by kernel_rfl) (by kernel_rfl) (by kernel_rfl) rfl rfl (fun _ _ _ h => h) ?_; intro a803 hE804; clear hE802
             refine d_only 2 (by kernel_rfl) rfl hE804 rfl (l_call (f := 166) (argv := [.slice apA ((ap).length / 3 : Nat) apC]) hE804 (fun _ => cf_l10Right _ _) rfl rfl (c_l10Right apA ((ap).length / 3 : Nat) apC ap w796 (St.rdR (i := 3) hS798 rfl) (by omega) (by omega) (IsPm.bin hf (by omega)).1) ?_)
             rintro _ w806 ⟨rfl, he810⟩ a807 hE808; clear hE804
             have hbn := IsPm.bin hf (by omega)
             have hS809 := St.go hS798 he810; clear hS798
             have hv814 := (St.rdR (i := 3) hS809 rfl).2.1
             have hv811 : (0 : Int) ≤ (F_l10End ap 1) ∧ (F_l10End ap 1) ≤ ((ap.length / 3 : Nat) : Int) ∧ ((ap.length / 3 : Nat) : Int) ≤ (((ap).length / 3 : Nat) : Int) := ⟨(by omega), (by omega), (by omega)⟩
             have hv812 : Int.toNat ((ap.length / 3 : Nat) : Int) - Int.toNat (F_l10End ap 1) = ((slI 3 ap (F_l10End ap 1) ((ap.length / 3 : Nat) : Int)).length / 3 : Nat) := ((slI_lenD (by decide) (St.rdR (i := 3) hS809 rfl).1 hv811.2.2)).symm
             have hv813 : Int.toNat ((ap.length / 3 : Nat) : Int) ≤ apC ∧ apC ≤ apC := ⟨by omega, by omega⟩
             refine ⟨fun _ _ => ⟨(St.row (i := 1) hS809 rfl _ (Ext.refl _)), trivial⟩, ?_⟩
             refine d_only 4 (by kernel_rfl) rfl hE808 rfl (l_call (f := 114) (argv := [.agg #[.int .i64 mp0, .slice mp1A mp1.length mp1C, .slice mp2A mp2.length mp2C], .slice (subA apA (Int.toNat (F_l10End ap 1)) apC 3) ((slI 3 ap (F_l10End ap 1) ((ap.length / 3 : Nat) : Int)).length / 3 : Nat) (apC - (Int.toNat (F_l10End ap 1))), .slice worldsA worlds.length worldsC]) hE808 (fun _ => cf_l10Holds _ _) rfl rfl (ih mp0 mp1A mp1.length mp1C mp1 mp2A mp2.length mp2C mp2 (subA apA (Int.toNat (F_l10End ap 1)) apC 3) ((slI 3 ap (F_l10End ap 1) ((ap.length / 3 : Nat) : Int)).length / 3 : Nat) (apC - (Int.toNat (F_l10End ap 1))) (slI 3 ap (F_l10End ap 1) ((ap.length / 3 : Nat) : Int)) worldsA worlds.length worldsC worlds w806 (St.rdR (i := 5) hS809 rfl) (St.rdR (i := 4) hS809 rfl) (RdS.sub (St.rdR (i := 3) hS809 rfl) apC hv811.1 hv811.2.1 hv811.2.2 hv813.1 hv813.2 hv812 rfl) (St.rdR (i := 2) hS809 rfl) (by omega) (by omega) (by omega) (Nat.le_trans (slI_le 3 _ _ _) hl) (by first | (with_reducible exact hbn.2.1.1) | (with_reducible exact hbn.2.1.2) | exact (IsPm.un hf (by omega)).1) (by first | assumption | (rw [sI_len]; assumption)) (by first | (have h9 := pm_frL hf (by omega) hfw; with_reducible exact h9) | (have h9 := pm_frR hf (by omega) hfw; with_reducible exact h9) | exact pm_frun hf (by omega) hfw (by omega) (by omega) (by omega) hag) (by first | (have h := hbn.2.2; omega) | (have h := (IsPm.un hf (by omega)).2; omega))) ?_)
             rintro _ w816 ⟨rfl, he820⟩ a817 hE818; clear hE808
             have hS819 := St.go hS809 he820; clear hS809
             refine ⟨fun h => Bool.noConfusion (h.symm.trans (show exm _ _ _ = true by kernel_rfl)), ?_⟩
             refine d_pure (fun _ h => h) (v := .bool (self mp0 mp1 mp2 (slI 3 ap (F_l10End ap 1) ((ap.length / 3 : Nat) : Int)) worlds)) 5 rfl hE818 (y_assign rfl) rfl (by kernel_rfl) (by kernel_rfl) (by kernel_rfl) rfl rfl (fun _ _ _ h => h) ?_; intro a821 hE822; clear hE818
             refine d_done (by kernel_rfl) ?_
             have hE823 := hE822.sub (L' := [(6, .bool (self mp0 mp1 mp2 (slI 3 ap (F_l10End ap 1) ((ap.length / 3 : Nat) : Int)) worlds))]) ⟨rfl, trivial⟩; clear hE822
             refine p_tn ?_
             refine wp_ret ?_
             have hF : F_l10Holds_b self mp0 mp1 mp2 ap worlds = self mp0 mp1 mp2 (slI 3 ap (F_l10End ap 1) ((ap.length / 3 : Nat) : Int)) worlds := by unfold F_l10Holds_b; (first | (rw [ht788, hb776, ht762, hb752, hb497, ht328, ht190, ht177, ht133, ht95, ht43]; first | done | rfl) | (exfalso; omega))
             refine c_ret1 hE823 rfl rfl ?_
             exact ⟨(by rw [hF]; first | done | (dsimp only; done) | rfl), hS819.ext⟩
           ·
            have hE824 := hE775; (try rw [hb776] at hE824); clear hE775
            have hp825 := of_decide_eq_false hb776
            refine q_skip hE824 rfl rfl rfl ?_; intro a826 hE827; clear hE824
            refine q_skip hE827 rfl rfl rfl ?_; intro a828 hE829; clear hE827
            refine q_step (v := .bool false) hE829 (y_pick (b := false) rfl rfl) rfl rfl rfl ?_; intro a830 hE831; clear hE829
            refine q_step (v := .bool false) hE831 (y_assign rfl) rfl rfl rfl ?_; intro a832 hE833; clear hE831
            refine c_nil ?_
            have hE834 := hE833.sub (L' := [(1, .slice apA ((ap).length / 3 : Nat) apC), (2, .slice worldsA worlds.length worldsC), (3, .pointer (some ⟨b5, 0, none⟩)), (114, .bool false)]) ⟨rfl, rfl, rfl, rfl, trivial⟩; clear hE833
            refine p_tn ?_
            refine c_false hE834 rfl ?_
            refine wp_skip ?_
            refine p_bn ?_
            refine p_tn ?_
            refine c_seq ?_
            refine d_start (fun w w' => (fun w' => w'.heap[b5]? = some (.cells #[.int .i64 mp0, .slice mp1A mp1.length mp1C, .slice mp2A mp2.length mp2C] 69 (0, 0)) ∧ True) w → (fun w' => w'.heap[b5]? = some (.cells #[.int .i64 mp0, .slice mp1A mp1.length mp1C, .slice mp2A mp2.length mp2C] 69 (0, 0)) ∧ True) w') [0] 6 (by kernel_rfl) rfl ?_
            intro w835 he836; have hS837 := St.go hS484 he836; clear hS484
            refine d_take (fun _ h => h) (fun _ _ h k => h k) (v := .agg #[.int .i64 mp0, .slice mp1A mp1.length mp1C, .slice mp2A mp2.length mp2C]) 0 rfl hE834 (S := fun w' => w'.heap[b5]? = some (.cells #[.int .i64 mp0, .slice mp1A mp1.length mp1C, .slice mp2A mp2.length mp2C] 69 (0, 0)) ∧ True) ⟨(St.row (i := 1) hS837 rfl _ (Ext.refl _)), trivial⟩ (y_loadS Try.underlying69 rfl (by kernel_rfl) rfl (fun _ h => h.1)) rfl rfl (by kernel_rfl) (by kernel_rfl) (by kernel_rfl) (by kernel_rfl) rfl rfl (fun _ _ _ h => h) ?_; intro a838 hE839; clear hE834
            refine d_pure (fun _ h => h) (v := .slice apA ((ap).length / 3 : Nat) apC) 1 rfl hE839 (y_move rfl) rfl (by kernel_rfl) (by kernel_rfl) (by kernel_rfl) rfl rfl (fun _ _ _ h => h) ?_; intro a840 hE841; clear hE839
            refine d_pure (fun _ h => h) (v := .slice worldsA worlds.length worldsC) 3 rfl hE841 (y_move rfl) rfl (by kernel_rfl) (by kernel_rfl) (by kernel_rfl) rfl rfl (fun _ _ _ h => h) ?_; intro a842 hE843; clear hE841
            refine d_only 2 (by kernel_rfl) rfl hE843 rfl (l_call (f := 166) (argv := [.slice apA ((ap).length / 3 : Nat) apC]) hE843 (fun _ => cf_l10Right _ _) rfl rfl (c_l10Right apA ((ap).length / 3 : Nat) apC ap w835 (St.rdR (i := 3) hS837 rfl) (by omega) (by omega) (IsPm.bin hf (by omega)).1) ?_)
            rintro _ w845 ⟨rfl, he849⟩ a846 hE847; clear hE843
            have hbn := IsPm.bin hf (by omega)
            have hS848 := St.go hS837 he849; clear hS837
            have hv853 := (St.rdR (i := 3) hS848 rfl).2.1
            have hv850 : (0 : Int) ≤ (F_l10End ap 1) ∧ (F_l10End ap 1) ≤ ((ap.length / 3 : Nat) : Int) ∧ ((ap.length / 3 : Nat) : Int) ≤ (((ap).length / 3 : Nat) : Int) := ⟨(by omega), (by omega), (by omega)⟩
            have hv851 : Int.toNat ((ap.length / 3 : Nat) : Int) - Int.toNat (F_l10End ap 1) = ((slI 3 ap (F_l10End ap 1) ((ap.length / 3 : Nat) : Int)).length / 3 : Nat) := ((slI_lenD (by decide) (St.rdR (i := 3) hS848 rfl).1 hv850.2.2)).symm
            have hv852 : Int.toNat ((ap.length / 3 : Nat) : Int) ≤ apC ∧ apC ≤ apC := ⟨by omega, by omega⟩
            refine ⟨fun _ _ => ⟨(St.row (i := 1) hS848 rfl _ (Ext.refl _)), trivial⟩, ?_⟩
            refine d_only 4 (by kernel_rfl) rfl hE847 rfl (l_call (f := 114) (argv := [.agg #[.int .i64 mp0, .slice mp1A mp1.length mp1C, .slice mp2A mp2.length mp2C], .slice (subA apA (Int.toNat (F_l10End ap 1)) apC 3) ((slI 3 ap (F_l10End ap 1) ((ap.length / 3 : Nat) : Int)).length / 3 : Nat) (apC - (Int.toNat (F_l10End ap 1))), .slice worldsA worlds.length worldsC]) hE847 (fun _ => cf_l10Holds _ _) rfl rfl (ih mp0 mp1A mp1.length mp1C mp1 mp2A mp2.length mp2C mp2 (subA apA (Int.toNat (F_l10End ap 1)) apC 3) ((slI 3 ap (F_l10End ap 1) ((ap.length / 3 : Nat) : Int)).length / 3 : Nat) (apC - (Int.toNat (F_l10End ap 1))) (slI 3 ap (F_l10End ap 1) ((ap.length / 3 : Nat) : Int)) worldsA worlds.length worldsC worlds w845 (St.rdR (i := 5) hS848 rfl) (St.rdR (i := 4) hS848 rfl) (RdS.sub (St.rdR (i := 3) hS848 rfl) apC hv850.1 hv850.2.1 hv850.2.2 hv852.1 hv852.2 hv851 rfl) (St.rdR (i := 2) hS848 rfl) (by omega) (by omega) (by omega) (Nat.le_trans (slI_le 3 _ _ _) hl) (by first | (with_reducible exact hbn.2.1.1) | (with_reducible exact hbn.2.1.2) | exact (IsPm.un hf (by omega)).1) (by first | assumption | (rw [sI_len]; assumption)) (by first | (have h9 := pm_frL hf (by omega) hfw; with_reducible exact h9) | (have h9 := pm_frR hf (by omega) hfw; with_reducible exact h9) | exact pm_frun hf (by omega) hfw (by omega) (by omega) (by omega) hag) (by first | (have h := hbn.2.2; omega) | (have h := (IsPm.un hf (by omega)).2; omega))) ?_)
            rintro _ w855 ⟨rfl, he859⟩ a856 hE857; clear hE847
            have hS858 := St.go hS848 he859; clear hS848
            refine ⟨fun h => Bool.noConfusion (h.symm.trans (show exm _ _ _ = true by kernel_rfl)), ?_⟩
            refine d_pure (fun _ h => h) (v := .bool (self mp0 mp1 mp2 (slI 3 ap (F_l10End ap 1) ((ap.length / 3 : Nat) : Int)) worlds)) 5 rfl hE857 (y_assign rfl) rfl (by kernel_rfl) (by kernel_rfl) (by kernel_rfl) rfl rfl (fun _ _ _ h => h) ?_; intro a860 hE861; clear hE857
            refine d_done (by kernel_rfl) ?_
            have hE862 := hE861.sub (L' := [(6, .bool (self mp0 mp1 mp2 (slI 3 ap (F_l10End ap 1) ((ap.length / 3 : Nat) : Int)) worlds))]) ⟨rfl, trivial⟩; clear hE861
            refine p_tn ?_
            refine wp_ret ?_
            have hF : F_l10Holds_b self mp0 mp1 mp2 ap worlds = self mp0 mp1 mp2 (slI 3 ap (F_l10End ap 1) ((ap.length / 3 : Nat) : Int)) worlds := by unfold F_l10Holds_b; (first | (rw [hb776, ht762, hb752, hb497, ht328, ht190, ht177, ht133, ht95, ht43]; first | done | rfl) | (exfalso; omega))
            refine c_ret1 hE862 rfl rfl ?_
            exact ⟨(by rw [hF]; first | done | (dsimp only; done) | rfl), hS858.ext⟩
         ·
          have hE863 := hE751; (try rw [hb752] at hE863); clear hE751
          have hp864 := of_decide_eq_false hb752
          refine q_skip hE863 rfl rfl rfl ?_; intro a865 hE866; clear hE863
          refine q_step (v := .bool false) hE866 (y_pick (b := false) rfl rfl) rfl rfl rfl ?_; intro a867 hE868; clear hE866
          refine q_step (v := .bool false) hE868 (y_assign rfl) rfl rfl rfl ?_; intro a869 hE870; clear hE868
          refine c_nil ?_
          have hE871 := hE870.sub (L' := [(1, .slice apA ((ap).length / 3 : Nat) apC), (2, .slice worldsA worlds.length worldsC), (3, .pointer (some ⟨b5, 0, none⟩)), (7, .pointer (some ⟨b20, 0, none⟩)), (11, .bool (self mp0 mp1 mp2 (slI 3 ap 1 (F_l10End ap 1)) worlds)), (107, .bool false)]) ⟨rfl, rfl, rfl, rfl, rfl, rfl, trivial⟩; clear hE870
          refine p_tn ?_
          refine c_false hE871 rfl ?_
          refine c_seq ?_
          refine c_reg ?_
          refine q_step (v := .pointer (some ⟨b20, 0, none⟩)) hE871 (y_field rfl (fun _ => by kernel_rfl)) rfl rfl rfl ?_; intro a872 hE873; clear hE871
          refine q_step (v := .int .i64 (gS 3 0 ap 0)) hE873 (y_load (fun _ => by kernel_rfl) rfl (St.cell (i := 0) hS484 rfl rfl)) rfl rfl rfl ?_; intro a874 hE875; clear hE873
          refine q_step (v := .bool (decide ((gS 3 0 ap 0) = 6))) hE875 (y_eql rfl rfl) rfl rfl rfl ?_; intro a876 hE877; clear hE875
          refine q_step (v := .bool (decide ((gS 3 0 ap 0) = 6))) hE877 (y_move rfl) rfl rfl rfl ?_; intro a878 hE879; clear hE877
          rcases Bool.eq_false_or_eq_true (decide ((gS 3 0 ap 0) = 6)) with hb880 | hb880
          ·
           have hE881 := hE879; (try rw [hb880] at hE881); clear hE879
           have hp882 := of_decide_eq_true hb880
           refine q_step (v := .bool (self mp0 mp1 mp2 (slI 3 ap 1 (F_l10End ap 1)) worlds)) hE881 (y_move rfl) rfl rfl rfl ?_; intro a883 hE884; clear hE881
           refine q_step (v := .bool (!(self mp0 mp1 mp2 (slI 3 ap 1 (F_l10End ap 1)) worlds))) hE884 (y_not rfl) rfl rfl rfl ?_; intro a885 hE886; clear hE884
           refine q_step (v := .bool (!(self mp0 mp1 mp2 (slI 3 ap 1 (F_l10End ap 1)) worlds))) hE886 (y_pick (b := true) rfl rfl) rfl rfl rfl ?_; intro a887 hE888; clear hE886
           refine q_step (v := .bool (!(self mp0 mp1 mp2 (slI 3 ap 1 (F_l10End ap 1)) worlds))) hE888 (y_assign rfl) rfl rfl rfl ?_; intro a889 hE890; clear hE888
           refine c_nil ?_
           have hE891 := hE890.sub (L' := [(1, .slice apA ((ap).length / 3 : Nat) apC), (2, .slice worldsA worlds.length worldsC), (3, .pointer (some ⟨b5, 0, none⟩)), (114, .bool (!(self mp0 mp1 mp2 (slI 3 ap 1 (F_l10End ap 1)) worlds)))]) ⟨rfl, rfl, rfl, rfl, trivial⟩; clear hE890
           refine p_tn ?_
           refine c_cond hE891 rfl (fun ht892 => ?_) (fun ht892 => ?_)
           ·
            have ht893 := bn_t ht892
            have hE894 := hE891; rw [ht892] at hE894; clear hE891
            refine c_seq ?_
            refine c_reg ?_
            refine q_step (v := .bool true) hE894 (y_assign rfl) rfl rfl rfl ?_; intro a895 hE896; clear hE894
            refine c_nil ?_
            have hE897 := hE896.sub (L' := [(6, .bool true)]) ⟨rfl, trivial⟩; clear hE896
            refine p_tn ?_
            refine wp_ret ?_
            refine p_br ?_
            refine p_tr ?_
            have hF : F_l10Holds_b self mp0 mp1 mp2 ap worlds = true := by unfold F_l10Holds_b; (first | (rw [ht892, hb880, hb752, hb497, ht328, ht190, ht177, ht133, ht95, ht43]; first | done | rfl) | (exfalso; omega))
            refine c_ret1 hE897 rfl rfl ?_
            exact ⟨(by rw [hF]; first | done | (dsimp only; done) | rfl), hS484.ext⟩
           ·
            have ht898 := bn_f ht892
            have hE899 := hE891; rw [ht892] at hE899; clear hE891
            refine wp_skip ?_
            refine p_bn ?_
            refine p_tn ?_
            refine c_seq ?_
            refine d_start (fun w w' => (fun w' => w'.heap[b5]? = some (.cells #[.int .i64 mp0, .slice mp1A mp1.length mp1C, .slice mp2A mp2.length mp2C] 69 (0, 0)) ∧ True) w → (fun w' => w'.heap[b5]? = some (.cells #[.int .i64 mp0, .slice mp1A mp1.length mp1C, .slice mp2A mp2.length mp2C] 69 (0, 0)) ∧ True) w') [0] 6 (by kernel_rfl) rfl ?_
            intro w900 he901; have hS902 := St.go hS484 he901; clear hS484
            refine d_take (fun _ h => h) (fun _ _ h k => h k) (v := .agg #[.int .i64 mp0, .slice mp1A mp1.length mp1C, .slice mp2A mp2.length mp2C]) 0 rfl hE899 (S := fun w' => w'.heap[b5]? = some (.cells #[.int .i64 mp0, .slice mp1A mp1.length mp1C, .slice mp2A mp2.length mp2C] 69 (0, 0)) ∧ True) ⟨(St.row (i := 1) hS902 rfl _ (Ext.refl _)), trivial⟩ (y_loadS Try.underlying69 rfl (by kernel_rfl) rfl (fun _ h => h.1)) rfl rfl (by kernel_rfl) (by kernel_rfl) (by kernel_rfl) (by kernel_rfl) rfl rfl (fun _ _ _ h => h) ?_; intro a903 hE904; clear hE899
            refine d_pure (fun _ h => h) (v := .slice apA ((ap).length / 3 : Nat) apC) 1 rfl hE904 (y_move rfl) rfl (by kernel_rfl) (by kernel_rfl) (by kernel_rfl) rfl rfl (fun _ _ _ h => h) ?_; intro a905 hE906; clear hE904
            refine d_pure (fun _ h => h) (v := .slice worldsA worlds.length worldsC) 3 rfl hE906 (y_move rfl) rfl (by kernel_rfl) (by kernel_rfl) (by kernel_rfl) rfl rfl (fun _ _ _ h => h) ?_; intro a907 hE908; clear hE906
            refine d_only 2 (by kernel_rfl) rfl hE908 rfl (l_call (f := 166) (argv := [.slice apA ((ap).length / 3 : Nat) apC]) hE908 (fun _ => cf_l10Right _ _) rfl rfl (c_l10Right apA ((ap).length / 3 : Nat) apC ap w900 (St.rdR (i := 3) hS902 rfl) (by omega) (by omega) (IsPm.bin hf (by omega)).1) ?_)
            rintro _ w910 ⟨rfl, he914⟩ a911 hE912; clear hE908
            have hbn := IsPm.bin hf (by omega)
            have hS913 := St.go hS902 he914; clear hS902
            have hv918 := (St.rdR (i := 3) hS913 rfl).2.1
            have hv915 : (0 : Int) ≤ (F_l10End ap 1) ∧ (F_l10End ap 1) ≤ ((ap.length / 3 : Nat) : Int) ∧ ((ap.length / 3 : Nat) : Int) ≤ (((ap).length / 3 : Nat) : Int) := ⟨(by omega), (by omega), (by omega)⟩
            have hv916 : Int.toNat ((ap.length / 3 : Nat) : Int) - Int.toNat (F_l10End ap 1) = ((slI 3 ap (F_l10End ap 1) ((ap.length / 3 : Nat) : Int)).length / 3 : Nat) := ((slI_lenD (by decide) (St.rdR (i := 3) hS913 rfl).1 hv915.2.2)).symm
            have hv917 : Int.toNat ((ap.length / 3 : Nat) : Int) ≤ apC ∧ apC ≤ apC := ⟨by omega, by omega⟩
            refine ⟨fun _ _ => ⟨(St.row (i := 1) hS913 rfl _ (Ext.refl _)), trivial⟩, ?_⟩
            refine d_only 4 (by kernel_rfl) rfl hE912 rfl (l_call (f := 114) (argv := [.agg #[.int .i64 mp0, .slice mp1A mp1.length mp1C, .slice mp2A mp2.length mp2C], .slice (subA apA (Int.toNat (F_l10End ap 1)) apC 3) ((slI 3 ap (F_l10End ap 1) ((ap.length / 3 : Nat) : Int)).length / 3 : Nat) (apC - (Int.toNat (F_l10End ap 1))), .slice worldsA worlds.length worldsC]) hE912 (fun _ => cf_l10Holds _ _) rfl rfl (ih mp0 mp1A mp1.length mp1C mp1 mp2A mp2.length mp2C mp2 (subA apA (Int.toNat (F_l10End ap 1)) apC 3) ((slI 3 ap (F_l10End ap 1) ((ap.length / 3 : Nat) : Int)).length / 3 : Nat) (apC - (Int.toNat (F_l10End ap 1))) (slI 3 ap (F_l10End ap 1) ((ap.length / 3 : Nat) : Int)) worldsA worlds.length worldsC worlds w910 (St.rdR (i := 5) hS913 rfl) (St.rdR (i := 4) hS913 rfl) (RdS.sub (St.rdR (i := 3) hS913 rfl) apC hv915.1 hv915.2.1 hv915.2.2 hv917.1 hv917.2 hv916 rfl) (St.rdR (i := 2) hS913 rfl) (by omega) (by omega) (by omega) (Nat.le_trans (slI_le 3 _ _ _) hl) (by first | (with_reducible exact hbn.2.1.1) | (with_reducible exact hbn.2.1.2) | exact (IsPm.un hf (by omega)).1) (by first | assumption | (rw [sI_len]; assumption)) (by first | (have h9 := pm_frL hf (by omega) hfw; with_reducible exact h9) | (have h9 := pm_frR hf (by omega) hfw; with_reducible exact h9) | exact pm_frun hf (by omega) hfw (by omega) (by omega) (by omega) hag) (by first | (have h := hbn.2.2; omega) | (have h := (IsPm.un hf (by omega)).2; omega))) ?_)
            rintro _ w920 ⟨rfl, he924⟩ a921 hE922; clear hE912
            have hS923 := St.go hS913 he924; clear hS913
            refine ⟨fun h => Bool.noConfusion (h.symm.trans (show exm _ _ _ = true by kernel_rfl)), ?_⟩
            refine d_pure (fun _ h => h) (v := .bool (self mp0 mp1 mp2 (slI 3 ap (F_l10End ap 1) ((ap.length / 3 : Nat) : Int)) worlds)) 5 rfl hE922 (y_assign rfl) rfl (by kernel_rfl) (by kernel_rfl) (by kernel_rfl) rfl rfl (fun _ _ _ h => h) ?_; intro a925 hE926; clear hE922
            refine d_done (by kernel_rfl) ?_
            have hE927 := hE926.sub (L' := [(6, .bool (self mp0 mp1 mp2 (slI 3 ap (F_l10End ap 1) ((ap.length / 3 : Nat) : Int)) worlds))]) ⟨rfl, trivial⟩; clear hE926
            refine p_tn ?_
            refine wp_ret ?_
            have hF : F_l10Holds_b self mp0 mp1 mp2 ap worlds = self mp0 mp1 mp2 (slI 3 ap (F_l10End ap 1) ((ap.length / 3 : Nat) : Int)) worlds := by unfold F_l10Holds_b; (first | (rw [ht892, hb880, hb752, hb497, ht328, ht190, ht177, ht133, ht95, ht43]; first | done | rfl) | (exfalso; omega))
            refine c_ret1 hE927 rfl rfl ?_
            exact ⟨(by rw [hF]; first | done | (dsimp only; done) | rfl), hS923.ext⟩
          ·
           have hE928 := hE879; (try rw [hb880] at hE928); clear hE879
           have hp929 := of_decide_eq_false hb880
           refine q_skip hE928 rfl rfl rfl ?_; intro a930 hE931; clear hE928
           refine q_skip hE931 rfl rfl rfl ?_; intro a932 hE933; clear hE931
           refine q_step (v := .bool false) hE933 (y_pick (b := false) rfl rfl) rfl rfl rfl ?_; intro a934 hE935; clear hE933
           refine q_step (v := .bool false) hE935 (y_assign rfl) rfl rfl rfl ?_; intro a936 hE937; clear hE935
           refine c_nil ?_
           have hE938 := hE937.sub (L' := [(1, .slice apA ((ap).length / 3 : Nat) apC), (2, .slice worldsA worlds.length worldsC), (3, .pointer (some ⟨b5, 0, none⟩)), (114, .bool false)]) ⟨rfl, rfl, rfl, rfl, trivial⟩; clear hE937
           refine p_tn ?_
           refine c_false hE938 rfl ?_
           refine wp_skip ?_
           refine p_bn ?_
           refine p_tn ?_
           refine c_seq ?_
           refine d_start (fun w w' => (fun w' => w'.heap[b5]? = some (.cells #[.int .i64 mp0, .slice mp1A mp1.length mp1C, .slice mp2A mp2.length mp2C] 69 (0, 0)) ∧ True) w → (fun w' => w'.heap[b5]? = some (.cells #[.int .i64 mp0, .slice mp1A mp1.length mp1C, .slice mp2A mp2.length mp2C] 69 (0, 0)) ∧ True) w') [0] 6 (by kernel_rfl) rfl ?_
           intro w939 he940; have hS941 := St.go hS484 he940; clear hS484
           refine d_take (fun _ h => h) (fun _ _ h k => h k) (v := .agg #[.int .i64 mp0, .slice mp1A mp1.length mp1C, .slice mp2A mp2.length mp2C]) 0 rfl hE938 (S := fun w' => w'.heap[b5]? = some (.cells #[.int .i64 mp0, .slice mp1A mp1.length mp1C, .slice mp2A mp2.length mp2C] 69 (0, 0)) ∧ True) ⟨(St.row (i := 1) hS941 rfl _ (Ext.refl _)), trivial⟩ (y_loadS Try.underlying69 rfl (by kernel_rfl) rfl (fun _ h => h.1)) rfl rfl (by kernel_rfl) (by kernel_rfl) (by kernel_rfl) (by kernel_rfl) rfl rfl (fun _ _ _ h => h) ?_; intro a942 hE943; clear hE938
           refine d_pure (fun _ h => h) (v := .slice apA ((ap).length / 3 : Nat) apC) 1 rfl hE943 (y_move rfl) rfl (by kernel_rfl) (by kernel_rfl) (by kernel_rfl) rfl rfl (fun _ _ _ h => h) ?_; intro a944 hE945; clear hE943
           refine d_pure (fun _ h => h) (v := .slice worldsA worlds.length worldsC) 3 rfl hE945 (y_move rfl) rfl (by kernel_rfl) (by kernel_rfl) (by kernel_rfl) rfl rfl (fun _ _ _ h => h) ?_; intro a946 hE947; clear hE945
           refine d_only 2 (by kernel_rfl) rfl hE947 rfl (l_call (f := 166) (argv := [.slice apA ((ap).length / 3 : Nat) apC]) hE947 (fun _ => cf_l10Right _ _) rfl rfl (c_l10Right apA ((ap).length / 3 : Nat) apC ap w939 (St.rdR (i := 3) hS941 rfl) (by omega) (by omega) (IsPm.bin hf (by omega)).1) ?_)
           rintro _ w949 ⟨rfl, he953⟩ a950 hE951; clear hE947
           have hbn := IsPm.bin hf (by omega)
           have hS952 := St.go hS941 he953; clear hS941
           have hv957 := (St.rdR (i := 3) hS952 rfl).2.1
           have hv954 : (0 : Int) ≤ (F_l10End ap 1) ∧ (F_l10End ap 1) ≤ ((ap.length / 3 : Nat) : Int) ∧ ((ap.length / 3 : Nat) : Int) ≤ (((ap).length / 3 : Nat) : Int) := ⟨(by omega), (by omega), (by omega)⟩
           have hv955 : Int.toNat ((ap.length / 3 : Nat) : Int) - Int.toNat (F_l10End ap 1) = ((slI 3 ap (F_l10End ap 1) ((ap.length / 3 : Nat) : Int)).length / 3 : Nat) := ((slI_lenD (by decide) (St.rdR (i := 3) hS952 rfl).1 hv954.2.2)).symm
           have hv956 : Int.toNat ((ap.length / 3 : Nat) : Int) ≤ apC ∧ apC ≤ apC := ⟨by omega, by omega⟩
           refine ⟨fun _ _ => ⟨(St.row (i := 1) hS952 rfl _ (Ext.refl _)), trivial⟩, ?_⟩
           refine d_only 4 (by kernel_rfl) rfl hE951 rfl (l_call (f := 114) (argv := [.agg #[.int .i64 mp0, .slice mp1A mp1.length mp1C, .slice mp2A mp2.length mp2C], .slice (subA apA (Int.toNat (F_l10End ap 1)) apC 3) ((slI 3 ap (F_l10End ap 1) ((ap.length / 3 : Nat) : Int)).length / 3 : Nat) (apC - (Int.toNat (F_l10End ap 1))), .slice worldsA worlds.length worldsC]) hE951 (fun _ => cf_l10Holds _ _) rfl rfl (ih mp0 mp1A mp1.length mp1C mp1 mp2A mp2.length mp2C mp2 (subA apA (Int.toNat (F_l10End ap 1)) apC 3) ((slI 3 ap (F_l10End ap 1) ((ap.length / 3 : Nat) : Int)).length / 3 : Nat) (apC - (Int.toNat (F_l10End ap 1))) (slI 3 ap (F_l10End ap 1) ((ap.length / 3 : Nat) : Int)) worldsA worlds.length worldsC worlds w949 (St.rdR (i := 5) hS952 rfl) (St.rdR (i := 4) hS952 rfl) (RdS.sub (St.rdR (i := 3) hS952 rfl) apC hv954.1 hv954.2.1 hv954.2.2 hv956.1 hv956.2 hv955 rfl) (St.rdR (i := 2) hS952 rfl) (by omega) (by omega) (by omega) (Nat.le_trans (slI_le 3 _ _ _) hl) (by first | (with_reducible exact hbn.2.1.1) | (with_reducible exact hbn.2.1.2) | exact (IsPm.un hf (by omega)).1) (by first | assumption | (rw [sI_len]; assumption)) (by first | (have h9 := pm_frL hf (by omega) hfw; with_reducible exact h9) | (have h9 := pm_frR hf (by omega) hfw; with_reducible exact h9) | exact pm_frun hf (by omega) hfw (by omega) (by omega) (by omega) hag) (by first | (have h := hbn.2.2; omega) | (have h := (IsPm.un hf (by omega)).2; omega))) ?_)
           rintro _ w959 ⟨rfl, he963⟩ a960 hE961; clear hE951
           have hS962 := St.go hS952 he963; clear hS952
           refine ⟨fun h => Bool.noConfusion (h.symm.trans (show exm _ _ _ = true by kernel_rfl)), ?_⟩
           refine d_pure (fun _ h => h) (v := .bool (self mp0 mp1 mp2 (slI 3 ap (F_l10End ap 1) ((ap.length / 3 : Nat) : Int)) worlds)) 5 rfl hE961 (y_assign rfl) rfl (by kernel_rfl) (by kernel_rfl) (by kernel_rfl) rfl rfl (fun _ _ _ h => h) ?_; intro a964 hE965; clear hE961
           refine d_done (by kernel_rfl) ?_
           have hE966 := hE965.sub (L' := [(6, .bool (self mp0 mp1 mp2 (slI 3 ap (F_l10End ap 1) ((ap.length / 3 : Nat) : Int)) worlds))]) ⟨rfl, trivial⟩; clear hE965
           refine p_tn ?_
           refine wp_ret ?_
           have hF : F_l10Holds_b self mp0 mp1 mp2 ap worlds = self mp0 mp1 mp2 (slI 3 ap (F_l10End ap 1) ((ap.length / 3 : Nat) : Int)) worlds := by unfold F_l10Holds_b; (first | (rw [hb880, hb752, hb497, ht328, ht190, ht177, ht133, ht95, ht43]; first | done | rfl) | (exfalso; omega))
           refine c_ret1 hE966 rfl rfl ?_
           exact ⟨(by rw [hF]; first | done | (dsimp only; done) | rfl), hS962.ext⟩
theorem c_l10Holds_r : ∀ (r : Nat) (mp0 : Int) (mp1A : Option Addr) (mp1N mp1C : Nat) (mp1 : List Int) (mp2A : Option Addr) (mp2N mp2C : Nat) (mp2 : List Int) (apA : Option Addr) (apN apC : Nat) (ap : List Int) (worldsA : Option Addr) (worldsN worldsC : Nat) (worlds : List Int) (w : World) (mp1R : RdS w 1 mp1A mp1N mp1C mp1) (mp2R : RdS w 1 mp2A mp2N mp2C mp2) (apR : RdS w 3 apA apN apC ap) (worldsR : RdS w 1 worldsA worldsN worldsC worlds) (hm0 : 0 ≤ mp0 ∧ mp0 ≤ 8) (hml : (mp1.length : Int) = mp0) (hvl : mp2.length ≤ 6) (hl : ap.length ≤ 4194304) (hf : IsPm (mp2.length : Int) ap) (hw : worlds.length = 10) (hfw : ∀ x : Nat, tb (F_l10Free ap) x = true → 0 ≤ gI worlds (x : Int) ∧ gI worlds (x : Int) < mp0) (hlt : ap.length < r), Calls Try.prog 114 #[.agg #[.int .i64 mp0, .slice mp1A mp1N mp1C, .slice mp2A mp2N mp2C], .slice apA apN apC, .slice worldsA worldsN worldsC] w (Ret fun v w' => v = .bool ((F_l10Holds_r r) mp0 mp1 mp2 ap worlds) ∧ Ext w w') := by
  intro r
  induction r with
  | zero => intros; omega
  | succ r ih =>
    intro mp0 mp1A mp1N mp1C mp1 mp2A mp2N mp2C mp2 apA apN apC ap worldsA worldsN worldsC worlds w mp1R mp2R apR worldsR hm0 hml hvl hl hf hw hfw hlt
    exact cb_l10Holds (F_l10Holds_r r) mp0 mp1A mp1N mp1C mp1 mp2A mp2N mp2C mp2 apA apN apC ap worldsA worldsN worldsC worlds w mp1R mp2R apR worldsR hm0 hml hvl hl hf hw hfw ap.length rfl (fun mp0 mp1A mp1N mp1C mp1 mp2A mp2N mp2C mp2 apA apN apC ap worldsA worldsN worldsC worlds w mp1R mp2R apR worldsR hm0 hml hvl hl hf hw hfw hdec => ih mp0 mp1A mp1N mp1C mp1 mp2A mp2N mp2C mp2 apA apN apC ap worldsA worldsN worldsC worlds w mp1R mp2R apR worldsR hm0 hml hvl hl hf hw hfw (by omega))
theorem c_l10Holds (mp0 : Int) (mp1A : Option Addr) (mp1N mp1C : Nat) (mp1 : List Int) (mp2A : Option Addr) (mp2N mp2C : Nat) (mp2 : List Int) (apA : Option Addr) (apN apC : Nat) (ap : List Int) (worldsA : Option Addr) (worldsN worldsC : Nat) (worlds : List Int) (w : World) (mp1R : RdS w 1 mp1A mp1N mp1C mp1) (mp2R : RdS w 1 mp2A mp2N mp2C mp2) (apR : RdS w 3 apA apN apC ap) (worldsR : RdS w 1 worldsA worldsN worldsC worlds) (hm0 : 0 ≤ mp0 ∧ mp0 ≤ 8) (hml : (mp1.length : Int) = mp0) (hvl : mp2.length ≤ 6) (hl : ap.length ≤ 4194304) (hf : IsPm (mp2.length : Int) ap) (hw : worlds.length = 10) (hfw : ∀ x : Nat, tb (F_l10Free ap) x = true → 0 ≤ gI worlds (x : Int) ∧ gI worlds (x : Int) < mp0) :
    Calls Try.prog 114 #[.agg #[.int .i64 mp0, .slice mp1A mp1N mp1C, .slice mp2A mp2N mp2C], .slice apA apN apC, .slice worldsA worldsN worldsC] w (Ret fun v w' => v = .bool (F_l10Holds mp0 mp1 mp2 ap worlds) ∧ Ext w w') := c_l10Holds_r (ap.length + 1) mp0 mp1A mp1N mp1C mp1 mp2A mp2N mp2C mp2 apA apN apC ap worldsA worldsN worldsC worlds w mp1R mp2R apR worldsR hm0 hml hvl hl hf hw hfw (Nat.lt_succ_self _)
theorem sI_twice (xs : List Int) (t a b : Int) : sI (sI xs t a) t b = sI xs t b := by unfold sI; rw [List.set_set]
def anyN : Nat → Int → (Int → Bool) → Bool
  | 0, _, _ => false
  | k + 1, i, p => p i || anyN k (i + 1) p
theorem quantE (L : Nat → Int → List Int → Except Bool (Int × List Int)) (e x : Bool) (n u : Int) (ws : List Int) (p : List Int → Bool) (h0 : 0 ≤ n) (hL : ∀ r i nx, L (r + 1) i nx = bif decide (i < n) then (bif p (sI nx u i) then .error e else L r (i + 1) (sI nx u i)) else .ok (i, nx)) :
    (bif isOk (L (Int.toNat (n - 0) + 1) 0 ws) then x else errD (L (Int.toNat (n - 0) + 1) 0 ws)) = bif anyN n.toNat 0 (fun j => p (sI ws u j)) then e else x := by
  have key : ∀ (k : Nat) (i : Int) (nx : List Int), n - i = (k : Int) → (∀ y, sI nx u y = sI ws u y) → (bif isOk (L (k + 1) i nx) then x else errD (L (k + 1) i nx)) = bif anyN k i (fun j => p (sI ws u j)) then e else x := by
    intro k
    induction k with
    | zero =>
      intro i nx hk hs
      rw [hL, decide_eq_false (by omega)]; rfl
    | succ k ih =>
      intro i nx hk hs
      rw [hL, decide_eq_true (by omega), cond_true, hs i]
      show _ = bif (p (sI ws u i) || anyN k (i + 1) (fun j => p (sI ws u j))) then e else x
      cases hp : p (sI ws u i) with
      | true => rfl
      | false => exact ih (i + 1) (sI ws u i) (by omega) fun y => sI_twice ws u i y
  rw [show Int.toNat (n - 0) = n.toNat by omega]
  exact key n.toNat 0 ws (by omega) fun y => rfl
/-- What a point formula says. -/
def Pm.val (m1 m2 : List Int) (n : Nat) : Pm → List Int → Bool
  | .leaf k u v, ws => bif decide (k = 0) then F_l01Bit (gI m1 (gI ws u)) (gI ws v) else bif decide (k = 1) then decide (gI ws u = gI ws v) else bif decide (k = 2) then F_l01Bit (gI m2 u) (gI ws v) else false
  | .un k u _ a, ws => bif decide (k = 7) then !(anyN n 0 fun j => !(a.val m1 m2 n (sI ws u j))) else anyN n 0 fun j => a.val m1 m2 n (sI ws u j)
  | .bin k _ _ a b, ws => bif decide (k = 4) then (a.val m1 m2 n ws && b.val m1 m2 n ws) else bif decide (k = 5) then (a.val m1 m2 n ws || b.val m1 m2 n ws) else (!(a.val m1 m2 n ws) || b.val m1 m2 n ws)
theorem holds_tree (bd m0 : Int) (m1 m2 : List Int) (h0 : 0 ≤ m0) : ∀ (t : Pm) (r : Nat) (ws : List Int), t.Ok bd → t.code.length < r → F_l10Holds_r r m0 m1 m2 t.code ws = t.val m1 m2 m0.toNat ws := by
  intro t
  induction t with
  | leaf k u v =>
    intro r ws h hr
    obtain ⟨r, rfl⟩ : ∃ r', r = r' + 1 := ⟨r - 1, by omega⟩
    show F_l10Holds_b (F_l10Holds_r r) m0 m1 m2 (Pm.leaf k u v).code ws = (Pm.leaf k u v).val m1 m2 m0.toNat ws
    unfold F_l10Holds_b Pm.val
    rw [show gS 3 0 (Pm.leaf k u v).code 0 = k from rfl, show gS 3 1 (Pm.leaf k u v).code 0 = u from rfl, show gS 3 2 (Pm.leaf k u v).code 0 = v from rfl]
    rcases leaf_kind h with rfl | rfl | rfl | rfl
    · rw [decide_eq_true (rfl : (0 : Int) = 0), cond_true, cond_true]
    · rw [decide_eq_false (show ¬ (1 : Int) = 0 by decide), cond_false, cond_false, decide_eq_true (rfl : (1 : Int) = 1), cond_true, cond_true]
    · rw [decide_eq_false (show ¬ (2 : Int) = 0 by decide), cond_false, cond_false, decide_eq_false (show ¬ (2 : Int) = 1 by decide), cond_false, cond_false, decide_eq_true (rfl : (2 : Int) = 2), cond_true, cond_true]
    · rw [decide_eq_false (show ¬ (3 : Int) = 0 by decide), cond_false, cond_false, decide_eq_false (show ¬ (3 : Int) = 1 by decide), cond_false, cond_false, decide_eq_false (show ¬ (3 : Int) = 2 by decide), cond_false, cond_false, decide_eq_true (rfl : (3 : Int) = 3), cond_true]
  | un k u v a ih =>
    intro r ws h hr
    obtain ⟨r, rfl⟩ : ∃ r', r = r' + 1 := ⟨r - 1, by omega⟩
    have e : (Pm.un k u v a).code = k :: u :: v :: a.code := rfl
    have hl : a.code.length < r := by rw [e] at hr; simp only [List.length_cons] at hr; omega
    show F_l10Holds_b (F_l10Holds_r r) m0 m1 m2 (Pm.un k u v a).code ws = (Pm.un k u v a).val m1 m2 m0.toNat ws
    have g0 : gS 3 0 (Pm.un k u v a).code 0 = k := rfl
    have g1 : gS 3 1 (Pm.un k u v a).code 0 = u := rfl
    have q1 := quantE (F_l10Holds_L1 m0 m1 m2 (Pm.un k u v a).code (F_l10Holds_r r)) (!(decide (k = 7))) (decide (k = 7)) m0 u ws (fun nx => (a.val m1 m2 m0.toNat nx != decide (k = 7))) h0 (fun s i nx => by
      show F_l10Holds_L1b m0 m1 m2 (Pm.un k u v a).code (F_l10Holds_r r) _ i nx = _
      unfold F_l10Holds_L1b
      rw [pm_un, g0, g1, ih r _ h.2 hl])
    have q2 := quantE (F_l10Holds_L2 m0 m1 m2 (Pm.un k u v a).code (F_l10Holds_r r)) (!(decide (k = 7))) (decide (k = 7)) m0 u ws (fun nx => (a.val m1 m2 m0.toNat nx != decide (k = 7))) h0 (fun s i nx => by
      show F_l10Holds_L2b m0 m1 m2 (Pm.un k u v a).code (F_l10Holds_r r) _ i nx = _
      unfold F_l10Holds_L2b
      rw [pm_un, g0, g1, ih r _ h.2 hl])
    unfold F_l10Holds_b Pm.val
    rw [g0]
    have hk := un_kind h.1
    rw [decide_eq_false (show ¬ k = 0 by omega), cond_false, decide_eq_false (show ¬ k = 1 by omega), cond_false, decide_eq_false (show ¬ k = 2 by omega), cond_false, decide_eq_false (show ¬ k = 3 by omega), cond_false, q1, q2]
    rcases hk with rfl | rfl
    · rw [decide_eq_true (rfl : (7 : Int) = 7), cond_true, cond_true]
      simp only [Bool.bne_true]
      cases anyN m0.toNat 0 (fun j => !(a.val m1 m2 m0.toNat (sI ws u j))) <;> rfl
    · rw [decide_eq_false (show ¬ (8 : Int) = 7 by decide), cond_false, cond_false, decide_eq_true (rfl : (8 : Int) = 8), cond_true]
      simp only [Bool.bne_false]
      cases anyN m0.toNat 0 (fun j => a.val m1 m2 m0.toNat (sI ws u j)) <;> rfl
  | bin k u v a b iha ihb =>
    intro r ws h hr
    obtain ⟨r, rfl⟩ : ∃ r', r = r' + 1 := ⟨r - 1, by omega⟩
    have e : (Pm.bin k u v a b).code = k :: u :: v :: (a.code ++ b.code) := rfl
    have hla : a.code.length < r := by rw [e] at hr; simp only [List.length_cons, List.length_append] at hr; omega
    have hlb : b.code.length < r := by rw [e] at hr; simp only [List.length_cons, List.length_append] at hr; omega
    obtain ⟨p0, p1, p2, p3⟩ := pm_part h
    show F_l10Holds_b (F_l10Holds_r r) m0 m1 m2 (Pm.bin k u v a b).code ws = (Pm.bin k u v a b).val m1 m2 m0.toNat ws
    unfold F_l10Holds_b Pm.val
    rw [show gS 3 0 (Pm.bin k u v a b).code 0 = k from rfl, p1, p2, p3, iha r ws h.2.1 hla, ihb r ws h.2.2 hlb]
    have hk := bin_kind h.1
    rw [decide_eq_false (show ¬ k = 0 by omega), cond_false, decide_eq_false (show ¬ k = 1 by omega), cond_false, decide_eq_false (show ¬ k = 2 by omega), cond_false, decide_eq_false (show ¬ k = 3 by omega), cond_false, decide_eq_false (show ¬ k = 7 by omega), cond_false, decide_eq_false (show ¬ k = 8 by omega), cond_false]
    generalize a.val m1 m2 m0.toNat ws = x
    generalize b.val m1 m2 m0.toNat ws = y
    rcases hk with rfl | rfl | rfl <;> cases x <;> cases y <;> rfl
end Go.Proofs.Ytkilkfhjfobcdaa
