/- GMD: models and contracts, printed by wip/gen/gen.py -/
import Derived.Test.YtlbonhloeefnmaaKMDGFA
import Derived.Test.YtlbonhloeefnmaaKMDGI
import Derived.Test.YtlbonhloeefnmaaKMDGCF
set_option linter.unusedVariables false
set_option linter.unusedSimpArgs false
namespace Go.Proofs.Ytlbonhloeefnmaa
open Go.RowKit
theorem rl_ext {n : Nat} {a b : List Int} (ha : Rl n a) (hb : Rl n b) (h : ∀ i j, i < n → rb a i j = rb b i j) : a = b := by
  have l1 := ha.1; have l2 := hb.1
  apply ext_gi (by omega)
  intro k hk
  have e : gI a (k : Int) = gI b (k : Int) := tb_ext (ha.2 k (by omega)).1 (hb.2 k (by omega)).1 fun j => h k j (by omega)
  unfold gI at e
  rwa [Int.toNat_natCast] at e
def F_IsModalAlgebra (ap0 : Int) (ap1 : List Int) : Bool :=
  F_isModalAlgebra ap0 ap1
theorem cf_IsModalAlgebra (args : Array Value) (w : World) : (callFunc 72 args).run Try.prog w = .ok (.enter 72 args) w := by kernel_rfl
set_option maxRecDepth 100000 in
theorem c_IsModalAlgebra (ap0 : Int) (ap1A : Option Addr) (ap1N ap1C : Nat) (ap1 : List Int) (w : World) (ap1R : RdS w 1 ap1A ap1N ap1C ap1) :
    Calls Try.prog 72 #[.agg #[.int .i64 ap0, .slice ap1A ap1N ap1C]] w (Ret fun v w' => v = .bool (F_IsModalAlgebra ap0 ap1) ∧ Ext w w') := by
  obtain rfl : ap1N = ap1.length := ap1R.len1.symm
  have ap1Le := ap1R.le
  have hS := St.nil w
  have hS1 := St.rd0 hS rfl ap1R; clear hS
  refine enter (args := [.agg #[.int .i64 ap0, .slice ap1A ap1.length ap1C]]) Try.func72 rfl rfl ?_
  rw [Try.ntmps72]; intro a hE
  have hE := hE.sub (L' := [(0, .agg #[.int .i64 ap0, .slice ap1A ap1.length ap1C])]) ⟨rfl, trivial⟩
  refine c_seq ?_
  refine c_reg ?_
  refine l_step hE rfl (l_box (v := .agg #[.int .i64 ap0, .slice ap1A ap1.length ap1C]) (cs := #[.int .i64 ap0, .slice ap1A ap1.length ap1C]) hS1 hE rfl rfl rfl ?_)
  intro b2 w3 hS6 he7 a4 hE5; clear hS1 hE
  refine q_step (v := .bool false) hE5 (y_assign rfl) rfl rfl rfl ?_; intro a8 hE9; clear hE5
  refine c_nil ?_
  have hE10 := hE9.sub (L' := [(1, .pointer (some ⟨b2, 0, none⟩))]) ⟨rfl, trivial⟩; clear hE9
  refine p_tn ?_
  refine c_seq ?_
  refine c_reg ?_
  refine q_step (v := .agg #[.int .i64 ap0, .slice ap1A ap1.length ap1C]) hE10 (y_loadS Try.underlying79 rfl (by kernel_rfl) rfl (St.row (i := 0) hS6 rfl)) rfl rfl rfl ?_; intro a11 hE12; clear hE10
  refine l_step hE12 rfl (l_call (f := 129) (argv := [.agg #[.int .i64 ap0, .slice ap1A ap1.length ap1C]]) hE12 (fun _ => cf_isModalAlgebra _ _) rfl rfl (c_isModalAlgebra ap0 ap1A ap1.length ap1C ap1 w3 (St.rdR (i := 1) hS6 rfl)) ?_)
  rintro _ w14 ⟨rfl, he18⟩ a15 hE16; clear hE12
  have hS17 := St.go hS6 he18; clear hS6
  refine q_step (v := .bool (F_isModalAlgebra ap0 ap1)) hE16 (y_assign rfl) rfl rfl rfl ?_; intro a19 hE20; clear hE16
  refine c_nil ?_
  have hE21 := hE20.sub (L' := [(2, .bool (F_isModalAlgebra ap0 ap1))]) ⟨rfl, trivial⟩; clear hE20
  refine p_tn ?_
  refine wp_ret ?_
  have hF : F_IsModalAlgebra ap0 ap1 = F_isModalAlgebra ap0 ap1 := by unfold F_IsModalAlgebra; rfl
  refine c_ret1 hE21 rfl rfl ?_
  exact ⟨(by rw [hF]; first | done | (dsimp only; done) | rfl), hS17.ext⟩
theorem tb_fullI (n j : Nat) : tb (fullI (n : Int)) j = decide (j < n) := by
  unfold tb fullI
  have e : ((2 : Int) ^ n - 1).toNat = 2 ^ n - 1 := by
    have e1 : ((2 : Int) ^ n) = ((2 ^ n : Nat) : Int) := by norm_cast
    have e2 : 0 < 2 ^ n := Nat.pow_pos (by decide)
    rw [e1]
    generalize 2 ^ n = p at *
    omega
  rw [Int.toNat_natCast, e, Nat.testBit_two_pow_sub_one]
theorem rb_lt {n : Nat} {a : List Int} (ha : Rl n a) {i j : Nat} (h : rb a i j = true) : i < n ∧ j < n := by
  have hi : i < n := by
    apply Decidable.byContradiction; intro hn
    have : gI a (i : Int) = 0 := gi_out (by have := ha.1; omega)
    unfold rb at h
    rw [this, tb_zero] at h
    cases h
  exact ⟨hi, tb_lt (ha.2 i hi) h⟩
theorem pow2I (n : Nat) : ((2 : Int) ^ n) = ((2 ^ n : Nat) : Int) := by norm_cast
theorem full_succ (n : Nat) : fullI (n : Int) + 1 = ((2 ^ n : Nat) : Int) := by
  unfold fullI
  rw [Int.toNat_natCast, pow2I]; omega
theorem mk_lt {n : Nat} {x : Nat} (h : x < 2 ^ n) : Mk n (x : Int) := Mk.of (by omega) (by rwa [Int.toNat_natCast])
theorem gI_nat (xs : List Int) {x : Int} (h : 0 ≤ x) : gI xs x = gI xs ((x.toNat : Nat) : Int) := by rw [Int.toNat_of_nonneg h]
theorem within_mk {n : Nat} (hn : n ≤ 62) {a b : Int} (ha : Mk n a) (hb : Mk n b) : F_within a b = decide (andI a b = a) := by
  have h1 := ha.sm hn
  have h2 := hb.sm hn
  exact within_eq ha.1 (by omega) hb.1 (by omega)
theorem l01Box_bits {n : Nat} (hn : n ≤ 62) {a : List Int} {m : Int} (ha : Rl n a) (hm : Mk n m) : Mk n (F_l01Box a m) ∧ ∀ w, tb (F_l01Box a m) w = true ↔ (w < n ∧ ∀ v, rb a w v = true → tb m v = true) := by
  have hl := ha.1
  have e : F_l01Box a m = (List.range n).foldl (fun o (i : Nat) => bif decide (andI (gI a (i : Int)) m = gI a (i : Int)) then orI o (powI (i : Int)) else o) 0 := by
    unfold F_l01Box
    rw [rangeLoop0 (a.length : Int) (by omega) (fun o t => bif decide (andI (gI a t) m = gI a t) then orI o (powI t) else o) (F_l01Box_L1 a m) (fun _ _ _ => rfl), hl, Int.toNat_natCast]
  obtain ⟨h1, h2⟩ := pow_fold hn (fun i => decide (andI (gI a (i : Int)) m = gI a (i : Int)))
  rw [e]
  refine ⟨h1, fun w => ?_⟩
  rw [h2 w, Bool.and_eq_true, decide_eq_true_iff]
  constructor
  · rintro ⟨hw, h⟩
    rw [← within_mk hn (ha.2 w hw) hm] at h
    exact ⟨hw, (within_bits hn (ha.2 w hw) hm).1 h⟩
  · rintro ⟨hw, h⟩
    refine ⟨hw, ?_⟩
    rw [← within_mk hn (ha.2 w hw) hm]
    exact (within_bits hn (ha.2 w hw) hm).2 h
theorem l15Of_map {n : Nat} (hn : n ≤ 5) (f1 : List Int) : F_l15Of (n : Int) f1 = ((n : Int), (List.range (2 ^ n)).map fun (x : Nat) => F_l01Box f1 (x : Int)) := by
  have hf := full_succ n
  have e := rangeLoopR0 (fullI (n : Int) + 1) (by rw [hf]; exact Int.natCast_nonneg _) (fun o t => o ++ [F_l01Box f1 t]) (F_l15Of_L1 (n : Int) f1) (fun r t o => by
    show F_l15Of_L1b (n : Int) f1 _ t o = _
    unfold F_l15Of_L1b
    rw [show decide (t ≤ fullI (n : Int)) = decide (t < fullI (n : Int) + 1) from decide_eq_decide.2 (by omega)]) []
  unfold F_l15Of
  rw [e, foldl_app, List.nil_append, hf, Int.toNat_natCast]
theorem l15Is_form {n : Nat} (hn : n ≤ 5) (bx : List Int) : F_l15Is (n : Int) bx = (decide (bx.length = 2 ^ n) && F_l01Masks (n : Int) bx && decide (gI bx (fullI (n : Int)) = fullI (n : Int)) && (List.range (2 ^ n)).all fun (x : Nat) => (List.range x).all fun (y : Nat) => decide (gI bx (andI (x : Int) (y : Int)) = andI (gI bx (x : Int)) (gI bx (y : Int)))) := by
  have hf := full_succ n
  have e2 : ∀ x : Int, 0 ≤ x → F_l15Is_L2 bx x (Int.toNat (x - 0) + 1) 0 = bif (List.range x.toNat).all (fun (y : Nat) => decide (gI bx (andI x (y : Int)) = andI (gI bx x) (gI bx (y : Int)))) then .ok x else .error false := fun x hx => by
    have := allE (F_l15Is_L2 bx x) false x (fun y => !decide (gI bx (andI x y) = andI (gI bx x) (gI bx y))) hx (fun r i _ _ => rfl)
    simp only [Bool.not_not] at this
    exact this
  have e1 : F_l15Is_L1 (n : Int) bx (Int.toNat (fullI (n : Int) + 1 - 0) + 1) 0 = bif (List.range (2 ^ n)).all (fun (x : Nat) => (List.range x).all fun (y : Nat) => decide (gI bx (andI (x : Int) (y : Int)) = andI (gI bx (x : Int)) (gI bx (y : Int)))) then .ok (fullI (n : Int) + 1) else .error false := by
    have := allE (F_l15Is_L1 (n : Int) bx) false (fullI (n : Int) + 1) (fun x => !((List.range x.toNat).all fun (y : Nat) => decide (gI bx (andI x (y : Int)) = andI (gI bx x) (gI bx (y : Int))))) (by rw [hf]; exact Int.natCast_nonneg _) (fun r i h0 h1 => by
      show F_l15Is_L1b (n : Int) bx _ i = _
      unfold F_l15Is_L1b
      rw [e2 i h0, show decide (i ≤ fullI (n : Int)) = decide (i < fullI (n : Int) + 1) from decide_eq_decide.2 (by omega)]
      cases decide (i < fullI (n : Int) + 1)
      · rfl
      · cases (List.range i.toNat).all (fun (y : Nat) => decide (gI bx (andI i (y : Int)) = andI (gI bx i) (gI bx (y : Int)))) <;> rfl)
    simp only [Bool.not_not, Int.toNat_natCast] at this
    rw [this, hf, Int.toNat_natCast]
  unfold F_l15Is
  rw [e1]
  have e3 : F_l01In (n : Int) 0 5 = true := by unfold F_l01In; rw [decide_eq_true (by omega), decide_eq_true (by omega)]; rfl
  have e4 : decide ((bx.length : Int) = powI (n : Int)) = decide (bx.length = 2 ^ n) := decide_eq_decide.2 (by rw [show powI (n : Int) = fullI (n : Int) + 1 by rw [fullI_pow]; omega, hf]; omega)
  rw [e3, e4]
  generalize decide (bx.length = 2 ^ n) = p
  generalize F_l01Masks (n : Int) bx = q
  generalize decide (gI bx (fullI (n : Int)) = fullI (n : Int)) = s
  generalize (List.range (2 ^ n)).all _ = u
  cases p <;> cases q <;> cases s <;> cases u <;> rfl
theorem masks_iff {n : Nat} {l : List Int} : F_l01Masks (n : Int) l = true ↔ ∀ k : Nat, k < l.length → Mk n (gI l (k : Int)) := by
  constructor
  · intro h k hk
    exact masks_mem h (k : Int) (by omega) (by omega)
  · intro h
    rw [masks_eq, List.all_eq_true]
    intro x hx
    obtain ⟨k, hk, rfl⟩ := List.getElem_of_mem hx
    have h1 := h k hk
    have e : gI l (k : Int) = l[k] := by unfold gI; rw [Int.toNat_natCast]; exact gi_get hk
    rw [e] at h1
    unfold F_l01In
    rw [decide_eq_true h1.1, decide_eq_true h1.2]; rfl
/-- A modal algebra: a box that keeps the full set and meets. -/
structure Alg (n : Nat) (bx : List Int) : Prop where
  len : bx.length = 2 ^ n
  mks : ∀ x, Mk n x → Mk n (gI bx x)
  top : gI bx (fullI (n : Int)) = fullI (n : Int)
  meet : ∀ x y, Mk n x → Mk n y → gI bx (andI x y) = andI (gI bx x) (gI bx y)
theorem andI_self' {n : Nat} (hn : n ≤ 62) {x : Int} (h : Mk n x) : andI x x = x := by
  obtain ⟨h1, h2, _⟩ := Mk.and hn h h
  exact tb_ext h1.1 h.1 fun j => by rw [h2 j, Bool.and_self]
theorem andI_comm' {n : Nat} (hn : n ≤ 62) {x y : Int} (hx : Mk n x) (hy : Mk n y) : andI x y = andI y x := by
  obtain ⟨h1, h2, _⟩ := Mk.and hn hx hy
  obtain ⟨h3, h4, _⟩ := Mk.and hn hy hx
  exact tb_ext h1.1 h3.1 fun j => by rw [h2 j, h4 j, Bool.and_comm]
theorem alg_of {n : Nat} (hn : n ≤ 5) {bx : List Int} (h : F_l15Is (n : Int) bx = true) : Alg n bx := by
  rw [l15Is_form hn, Bool.and_eq_true, Bool.and_eq_true, Bool.and_eq_true, decide_eq_true_iff, decide_eq_true_iff, masks_iff] at h
  obtain ⟨⟨⟨h1, h2⟩, h3⟩, h4⟩ := h
  have mk : ∀ x, Mk n x → Mk n (gI bx x) := fun x hx => by
    rw [gI_nat bx hx.1]
    exact h2 _ (by rw [h1]; exact hx.lt)
  have lt : ∀ x y, Mk n x → Mk n y → y < x → gI bx (andI x y) = andI (gI bx x) (gI bx y) := fun x y hx hy hlt => by
    have := List.all_eq_true.1 h4 x.toNat (List.mem_range.2 hx.lt)
    have := List.all_eq_true.1 this y.toNat (List.mem_range.2 (by have := hy.1; omega))
    have := of_decide_eq_true this
    rwa [Int.toNat_of_nonneg hx.1, Int.toNat_of_nonneg hy.1] at this
  refine ⟨h1, mk, h3, fun x y hx hy => ?_⟩
  by_cases c1 : y < x
  · exact lt x y hx hy c1
  · by_cases c2 : x < y
    · rw [andI_comm' (by omega) hx hy, lt y x hy hx c2, andI_comm' (by omega) (mk x hx) (mk y hy)]
    · have : x = y := by omega
      subst this
      rw [andI_self' (by omega) hx, andI_self' (by omega) (mk x hx)]
theorem Alg.is {n : Nat} (hn : n ≤ 5) {bx : List Int} (h : Alg n bx) : F_l15Is (n : Int) bx = true := by
  rw [l15Is_form hn, Bool.and_eq_true, Bool.and_eq_true, Bool.and_eq_true, decide_eq_true_iff, decide_eq_true_iff, masks_iff]
  refine ⟨⟨⟨h.len, fun k hk => h.mks _ (mk_lt (by rw [← h.len]; exact hk))⟩, h.top⟩, ?_⟩
  rw [List.all_eq_true]; intro x hx
  rw [List.all_eq_true]; intro y hy
  have hx := List.mem_range.1 hx
  have hy := List.mem_range.1 hy
  exact decide_eq_true (h.meet _ _ (mk_lt hx) (mk_lt (by omega)))
/-- All but v. -/
theorem but_bits {n : Nat} (hn : n ≤ 62) {v : Nat} (hv : v < n) : Mk n (fullI (n : Int) - powI (v : Int)) ∧ ∀ j, tb (fullI (n : Int) - powI (v : Int)) j = (decide (j < n) && !decide (v = j)) := by
  have hp := pow_full (n := (n : Int)) (v := (v : Int)) (by omega) (by omega) (by omega)
  have hb := fullI_bd (n := (n : Int)) (by omega) (by omega)
  have e := anI_full (n := (n : Int)) (x := powI (v : Int)) (by omega) (by omega) (by omega) hp.2
  obtain ⟨a1, a2, a3⟩ := anI_testBit (m := fullI (n : Int)) (k := powI (v : Int)) (by omega) (by omega) (by omega) (by omega)
  have t : ∀ j, tb (fullI (n : Int) - powI (v : Int)) j = (decide (j < n) && !decide (v = j)) := fun j => by
    rw [← e]
    have := a3 j
    show (anI (fullI (n : Int)) (powI (v : Int))).toNat.testBit j = _
    rw [this]
    have h1 := tb_fullI n j
    have h2 := tb_pow v j
    unfold tb at h1 h2
    rw [h1, h2]
  refine ⟨Mk.ofBits (by omega) fun j hj => ?_, t⟩
  rw [t, Bool.and_eq_true] at hj
  exact of_decide_eq_true hj.1
theorem mk_full (n : Nat) : Mk n (fullI (n : Int)) := by
  have h1 := full_succ n
  have h2 : 0 < 2 ^ n := Nat.pow_pos (by decide)
  exact ⟨by omega, by omega⟩
/-- The frame of an algebra: w sees v where w is not in the box of all but v. -/
theorem l15Frame_bits {n : Nat} (hn : n ≤ 5) {bx : List Int} (h : Alg n bx) : ∃ fr, F_l15Frame (n : Int) bx = ((n : Int), fr) ∧ Rl n fr ∧ ∀ w v, w < n → v < n → rb fr w v = !tb (gI bx (fullI (n : Int) - powI (v : Int))) w := by
  have e := foa_spec (ap0 := (n : Int)) (ap1 := bx) (by omega)
  rw [Int.toNat_natCast] at e
  have key := fun w : Nat => pow_fold (n := n) (by omega) (fun v => !(F_l01Bit (gI bx (fullI (n : Int) - powI (v : Int))) (w : Int)))
  refine ⟨(F_l15Frame_L1 (n : Int) bx (Int.toNat ((n : Int) - 0) + 1) [] 0).1, ?_, ?_, ?_⟩
  · unfold F_l15Frame
    rw [e, List.length_map, List.length_range]
  · rw [e]
    refine ⟨by rw [List.length_map, List.length_range], fun i hi => ?_⟩
    rw [gI_map hi]
    exact (key i).1
  · intro w v hw hv
    unfold rb
    rw [e, gI_map hw]
    have := (key w).2 v
    have h2 : tb ((List.range n).foldl (fun o (v : Nat) => foaS (n : Int) bx (w : Int) (v : Int) o) 0) v = (decide (v < n) && !(F_l01Bit (gI bx (fullI (n : Int) - powI (v : Int))) (w : Int))) := this
    rw [h2, decide_eq_true hv, Bool.true_and]
    congr 1
    exact tb_has (n := n) (by omega) (h.mks _ (but_bits (by omega) hv).1) (by omega)
theorem meet_all {n : Nat} (hn : n ≤ 5) {bx : List Int} (h : Alg n bx) {x : Int} (hx : Mk n x) : ∀ k : Nat, k ≤ n → ∃ y, Mk n y ∧ (∀ j, tb y j = (decide (j < n) && (decide (k ≤ j) || tb x j))) ∧ ∀ w, (tb (gI bx y) w = true ↔ (w < n ∧ ∀ v, v < k → tb x v = false → tb (gI bx (fullI (n : Int) - powI (v : Int))) w = true)) := by
  intro k
  induction k with
  | zero =>
    intro _
    refine ⟨fullI (n : Int), mk_full n, fun j => ?_, fun w => ?_⟩
    · rw [tb_fullI, decide_eq_true (Nat.zero_le j), Bool.true_or, Bool.and_true]
    · rw [h.top, tb_fullI, decide_eq_true_iff]
      exact ⟨fun h => ⟨h, fun v hv => absurd hv (by omega)⟩, fun h => h.1⟩
  | succ k ih =>
    intro hk
    obtain ⟨y, y1, y2, y3⟩ := ih (by omega)
    cases hb : tb x k
    · obtain ⟨b1, b2⟩ := but_bits (n := n) (by omega) (v := k) (by omega)
      obtain ⟨a1, a2, _⟩ := Mk.and (n := n) (by omega) y1 b1
      obtain ⟨_, c2, _⟩ := Mk.and (n := n) (by omega) (h.mks _ y1) (h.mks _ b1)
      refine ⟨andI y (fullI (n : Int) - powI (k : Int)), a1, fun j => ?_, fun w => ?_⟩
      · rw [a2, y2, b2]
        by_cases hj : k = j
        · subst hj
          rw [hb, decide_eq_true (Nat.le_refl k), decide_eq_false (show ¬ k + 1 ≤ k by omega), decide_eq_true (rfl : k = k)]; simp
        · rw [decide_eq_false hj, show decide (k + 1 ≤ j) = decide (k ≤ j) from decide_eq_decide.2 (by omega)]
          cases decide (j < n) <;> simp
      · rw [h.meet _ _ y1 b1, c2, Bool.and_eq_true, y3]
        constructor
        · rintro ⟨⟨h1, h2⟩, h3⟩
          refine ⟨h1, fun v hv hx => ?_⟩
          by_cases e : v = k
          · subst e; exact h3
          · exact h2 v (by omega) hx
        · rintro ⟨h1, h2⟩
          exact ⟨⟨h1, fun v hv hx => h2 v (by omega) hx⟩, h2 k (by omega) hb⟩
    · refine ⟨y, y1, fun j => ?_, fun w => ?_⟩
      · rw [y2]
        by_cases hj : k = j
        · subst hj
          rw [hb]; simp
        · rw [show decide (k + 1 ≤ j) = decide (k ≤ j) from decide_eq_decide.2 (by omega)]
      · rw [y3]
        refine and_congr_right fun _ => ⟨fun h2 v hv hx => ?_, fun h2 v hv hx => h2 v (by omega) hx⟩
        by_cases e : v = k
        · subst e; rw [hb] at hx; cases hx
        · exact h2 v (by omega) hx
theorem Alg.box {n : Nat} (hn : n ≤ 5) {bx : List Int} (h : Alg n bx) {x : Int} (hx : Mk n x) (w : Nat) : tb (gI bx x) w = true ↔ (w < n ∧ ∀ v, v < n → tb x v = false → tb (gI bx (fullI (n : Int) - powI (v : Int))) w = true) := by
  obtain ⟨y, y1, y2, y3⟩ := meet_all hn h hx n (Nat.le_refl n)
  have : y = x := tb_ext y1.1 hx.1 fun j => by
    rw [y2]
    by_cases hj : j < n
    · rw [decide_eq_true hj, decide_eq_false (by omega), Bool.false_or, Bool.true_and]
    · rw [decide_eq_false hj, Bool.false_and, tb_big hx (by omega)]
  rw [← this]
  have := y3 w
  rw [this]
  subst y
  exact Iff.rfl
/-- The algebra of the frame of an algebra is the algebra. -/
theorem dual_alg {n : Nat} (hn : n ≤ 5) {bx : List Int} (h : Alg n bx) : ∃ fr, F_l15Frame (n : Int) bx = ((n : Int), fr) ∧ Rl n fr ∧ F_l15Of (n : Int) fr = ((n : Int), bx) := by
  obtain ⟨fr, f1, f2, f3⟩ := l15Frame_bits hn h
  refine ⟨fr, f1, f2, ?_⟩
  rw [l15Of_map hn]
  congr 1
  symm
  apply list_map_ext h.len
  intro x hx
  have hx' := mk_lt hx
  obtain ⟨b1, b2⟩ := l01Box_bits (n := n) (by omega) f2 hx'
  apply tb_ext (h.mks _ hx').1 b1.1
  intro w
  rw [Bool.eq_iff_iff, b2, h.box hn hx']
  refine and_congr_right fun hw => ⟨fun h2 v hv => ?_, fun h2 v hv hx => ?_⟩
  · have hvn := (rb_lt f2 hv).2
    cases e : tb (x : Int) v
    · have := h2 v hvn e
      rw [f3 w v hw hvn, this] at hv
      cases hv
    · rfl
  · cases e : tb (gI bx (fullI (n : Int) - powI (v : Int))) w
    · have := h2 v (by rw [f3 w v hw hv, e]; rfl)
      rw [hx] at this; cases this
    · rfl
/-- The algebra of a frame is one, and its frame is the frame. -/
theorem dual_frame {n : Nat} (hn : n ≤ 5) {g : List Int} (hg : Rl n g) : ∃ bx, F_l15Of (n : Int) g = ((n : Int), bx) ∧ Alg n bx ∧ F_l15Frame (n : Int) bx = ((n : Int), g) := by
  have hgI : ∀ x, Mk n x → gI ((List.range (2 ^ n)).map fun (x : Nat) => F_l01Box g (x : Int)) x = F_l01Box g x := fun x hx => by
    rw [gI_nat _ hx.1, gI_map hx.lt, Int.toNat_of_nonneg hx.1]
  have ha : Alg n ((List.range (2 ^ n)).map fun (x : Nat) => F_l01Box g (x : Int)) := by
    refine ⟨by rw [List.length_map, List.length_range], fun x hx => ?_, ?_, fun x y hx hy => ?_⟩
    · rw [hgI x hx]; exact (l01Box_bits (n := n) (by omega) hg hx).1
    · rw [hgI _ (mk_full n)]
      obtain ⟨b1, b2⟩ := l01Box_bits (n := n) (by omega) hg (mk_full n)
      apply tb_ext b1.1 (mk_full n).1
      intro w
      rw [Bool.eq_iff_iff, b2, tb_fullI, decide_eq_true_iff]
      exact ⟨fun h => h.1, fun h => ⟨h, fun v hv => by rw [tb_fullI]; exact decide_eq_true (rb_lt hg hv).2⟩⟩
    · obtain ⟨a1, a2, _⟩ := Mk.and (n := n) (by omega) hx hy
      obtain ⟨b1, b2⟩ := l01Box_bits (n := n) (by omega) hg hx
      obtain ⟨c1, c2⟩ := l01Box_bits (n := n) (by omega) hg hy
      obtain ⟨d1, d2⟩ := l01Box_bits (n := n) (by omega) hg a1
      obtain ⟨e1, e2, _⟩ := Mk.and (n := n) (by omega) b1 c1
      rw [hgI _ a1, hgI _ hx, hgI _ hy]
      apply tb_ext d1.1 e1.1
      intro w
      rw [Bool.eq_iff_iff, e2, Bool.and_eq_true, b2, c2, d2]
      constructor
      · rintro ⟨h1, h2⟩
        refine ⟨⟨h1, fun v hv => ?_⟩, h1, fun v hv => ?_⟩
        · have := h2 v hv; rw [a2, Bool.and_eq_true] at this; exact this.1
        · have := h2 v hv; rw [a2, Bool.and_eq_true] at this; exact this.2
      · rintro ⟨⟨h1, h2⟩, _, h3⟩
        exact ⟨h1, fun v hv => by rw [a2, Bool.and_eq_true]; exact ⟨h2 v hv, h3 v hv⟩⟩
  refine ⟨_, l15Of_map hn g, ha, ?_⟩
  obtain ⟨fr, f1, f2, f3⟩ := l15Frame_bits hn ha
  rw [f1]
  congr 1
  apply rl_ext f2 hg
  intro w v hw
  by_cases hv : v < n
  · obtain ⟨b1, b2⟩ := but_bits (n := n) (by omega) hv
    obtain ⟨c1, c2⟩ := l01Box_bits (n := n) (by omega) hg b1
    rw [f3 w v hw hv, hgI _ b1]
    cases e : rb g w v
    · have hin : tb (F_l01Box g (fullI (n : Int) - powI (v : Int))) w = true := (c2 w).2 ⟨hw, fun u hu => by
        rw [b2, decide_eq_true (rb_lt hg hu).2, Bool.true_and]
        cases e2 : decide (v = u)
        · rfl
        · rw [of_decide_eq_true e2] at e; rw [e] at hu; cases hu⟩
      rw [hin]; rfl
    · cases e2 : tb (F_l01Box g (fullI (n : Int) - powI (v : Int))) w
      · rfl
      · have := ((c2 w).1 e2).2 v e
        rw [b2, decide_eq_true (rfl : v = v), Bool.not_true, Bool.and_false] at this
        cases this
  · have e1 : rb fr w v = false := by
      cases h : rb fr w v
      · rfl
      · exact absurd (rb_lt f2 h).2 hv
    have e2 : rb g w v = false := by
      cases h : rb g w v
      · rfl
      · exact absurd (rb_lt hg h).2 hv
    rw [e1, e2]
end Go.Proofs.Ytlbonhloeefnmaa
