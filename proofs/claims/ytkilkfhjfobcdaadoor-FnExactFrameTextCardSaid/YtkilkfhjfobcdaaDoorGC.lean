/- GC: models and contracts, printed by wip/gen/gen.py -/
import Derived.Test.YtkilkfhjfobcdaaDoorGB
set_option linter.unusedVariables false
set_option linter.unusedSimpArgs false
namespace Go.Proofs.YtkilkfhjfobcdaaDoor
open Go.RowKit

def F_inRange (xp : Int) (low : Int) (high : Int) : Bool :=
  ((decide (low ≤ xp)) && (decide (xp ≤ high)))
theorem cf_inRange (args : Array Value) (w : World) : (callFunc 20 args).run Tryd.prog w = .ok (.enter 20 args) w := by kernel_rfl
set_option maxRecDepth 100000 in
theorem c_inRange (xp : Int) (low : Int) (high : Int) (w : World) :
    Calls Tryd.prog 20 #[.int .i64 xp, .int .i64 low, .int .i64 high] w (Ret fun v w' => v = .bool (F_inRange xp low high) ∧ w = w') := by
  have hS := St.nil w
  refine enter (args := [.int .i64 xp, .int .i64 low, .int .i64 high]) Tryd.func20 rfl rfl ?_
  rw [Tryd.ntmps20]; intro a hE
  have hE := hE.sub (L' := [(0, .int .i64 xp), (1, .int .i64 low), (2, .int .i64 high)]) ⟨rfl, rfl, rfl, trivial⟩
  refine c_seq ?_
  refine c_reg ?_
  refine q_step (v := .bool false) hE (y_assign rfl) rfl rfl rfl ?_; intro a1 hE2; clear hE
  refine c_nil ?_
  have hE3 := hE2.sub (L' := [(0, .int .i64 xp), (1, .int .i64 low), (2, .int .i64 high)]) ⟨rfl, rfl, rfl, trivial⟩; clear hE2
  refine p_tn ?_
  refine c_cut (fun a' w' => w = w' ∧ E a' 15 [(6, .bool ((decide (low ≤ xp)) && (decide (xp ≤ high))))]) ?_ ?_
  ·
   refine c_reg ?_
   refine q_step (v := .int .i64 low) hE3 (y_move rfl) rfl rfl rfl ?_; intro a4 hE5; clear hE3
   refine q_step (v := .int .i64 xp) hE5 (y_move rfl) rfl rfl rfl ?_; intro a6 hE7; clear hE5
   refine q_step (v := .bool (decide (low ≤ xp))) hE7 (y_leq rfl rfl) rfl rfl rfl ?_; intro a8 hE9; clear hE7
   refine q_step (v := .bool (decide (low ≤ xp))) hE9 (y_move rfl) rfl rfl rfl ?_; intro a10 hE11; clear hE9
   rcases Bool.eq_false_or_eq_true (decide (low ≤ xp)) with hb12 | hb12
   ·
    have hE13 := hE11; (try rw [hb12] at hE13); clear hE11
    have hp14 := of_decide_eq_true hb12
    refine q_step (v := .int .i64 xp) hE13 (y_move rfl) rfl rfl rfl ?_; intro a15 hE16; clear hE13
    refine q_step (v := .int .i64 high) hE16 (y_move rfl) rfl rfl rfl ?_; intro a17 hE18; clear hE16
    refine q_step (v := .bool (decide (xp ≤ high))) hE18 (y_leq rfl rfl) rfl rfl rfl ?_; intro a19 hE20; clear hE18
    refine q_step (v := .bool (decide (xp ≤ high))) hE20 (y_pick (b := true) rfl rfl) rfl rfl rfl ?_; intro a21 hE22; clear hE20
    refine q_step (v := .bool (decide (xp ≤ high))) hE22 (y_assign rfl) rfl rfl rfl ?_; intro a23 hE24; clear hE22
    refine c_nil ?_
    have hE25 := hE24.sub (L' := [(6, .bool (decide (xp ≤ high)))]) ⟨rfl, trivial⟩; clear hE24
    refine p_tn ?_
    have hE26 := hE25.sub (L' := [(6, .bool (decide (xp ≤ high)))]) ⟨rfl, trivial⟩
    exact ⟨rfl, (by rw [hb12]; exact hE26)⟩
   ·
    have hE27 := hE11; (try rw [hb12] at hE27); clear hE11
    have hp28 := of_decide_eq_false hb12
    refine q_skip hE27 rfl rfl rfl ?_; intro a29 hE30; clear hE27
    refine q_skip hE30 rfl rfl rfl ?_; intro a31 hE32; clear hE30
    refine q_skip hE32 rfl rfl rfl ?_; intro a33 hE34; clear hE32
    refine q_step (v := .bool false) hE34 (y_pick (b := false) rfl rfl) rfl rfl rfl ?_; intro a35 hE36; clear hE34
    refine q_step (v := .bool false) hE36 (y_assign rfl) rfl rfl rfl ?_; intro a37 hE38; clear hE36
    refine c_nil ?_
    have hE39 := hE38.sub (L' := [(6, .bool false)]) ⟨rfl, trivial⟩; clear hE38
    refine p_tn ?_
    have hE40 := hE39.sub (L' := [(6, .bool false)]) ⟨rfl, trivial⟩
    exact ⟨rfl, (by rw [hb12]; exact hE40)⟩
  ·
   rintro a41 _ ⟨rfl, hE43⟩; clear hE3
   refine wp_ret ?_
   have hF : F_inRange xp low high = ((decide (low ≤ xp)) && (decide (xp ≤ high))) := by unfold F_inRange; rfl
   refine c_ret1 hE43 rfl rfl ?_
   exact ⟨(by rw [hF]; first | done | (dsimp only; done) | rfl), rfl⟩

theorem F_inRange_t {x low high : Int} (h : F_inRange x low high = true) : low ≤ x ∧ x ≤ high := by
  unfold F_inRange at h; simpa using h

def F_has (mask : Int) (i : Int) : Bool :=
  decide ((andI (shrI mask i) 1) = 1)
theorem cf_has (args : Array Value) (w : World) : (callFunc 33 args).run Tryd.prog w = .ok (.enter 33 args) w := by kernel_rfl
set_option maxRecDepth 100000 in
theorem c_has (mask : Int) (i : Int) (w : World) (h0 : 0 ≤ i) :
    Calls Tryd.prog 33 #[.int .i64 mask, .int .i64 i] w (Ret fun v w' => v = .bool (F_has mask i) ∧ w = w') := by
  have hS := St.nil w
  refine enter (args := [.int .i64 mask, .int .i64 i]) Tryd.func33 rfl rfl ?_
  rw [Tryd.ntmps33]; intro a hE
  have hE := hE.sub (L' := [(0, .int .i64 mask), (1, .int .i64 i)]) ⟨rfl, rfl, trivial⟩
  refine c_seq ?_
  refine c_reg ?_
  refine q_step (v := .bool false) hE (y_assign rfl) rfl rfl rfl ?_; intro a1 hE2; clear hE
  refine c_nil ?_
  have hE3 := hE2.sub (L' := [(0, .int .i64 mask), (1, .int .i64 i)]) ⟨rfl, rfl, trivial⟩; clear hE2
  refine p_tn ?_
  refine c_seq ?_
  refine c_reg ?_
  refine q_step (v := .int .i64 mask) hE3 (y_move rfl) rfl rfl rfl ?_; intro a4 hE5; clear hE3
  refine q_step (v := .int .i64 i) hE5 (y_move rfl) rfl rfl rfl ?_; intro a6 hE7; clear hE5
  refine q_step (v := .int .i64 (shrI mask i)) hE7 (y_shr rfl rfl (by omega)) rfl rfl rfl ?_; intro a8 hE9; clear hE7
  refine q_step (v := .int .i64 (andI (shrI mask i) 1)) hE9 (y_and rfl rfl) rfl rfl rfl ?_; intro a10 hE11; clear hE9
  refine q_step (v := .bool (decide ((andI (shrI mask i) 1) = 1))) hE11 (y_eql rfl rfl) rfl rfl rfl ?_; intro a12 hE13; clear hE11
  refine q_step (v := .bool (decide ((andI (shrI mask i) 1) = 1))) hE13 (y_assign rfl) rfl rfl rfl ?_; intro a14 hE15; clear hE13
  refine c_nil ?_
  have hE16 := hE15.sub (L' := [(4, .bool (decide ((andI (shrI mask i) 1) = 1)))]) ⟨rfl, trivial⟩; clear hE15
  refine p_tn ?_
  refine wp_ret ?_
  have hF : F_has mask i = decide ((andI (shrI mask i) 1) = 1) := by unfold F_has; rfl
  refine c_ret1 hE16 rfl rfl ?_
  exact ⟨(by rw [hF]; first | done | (dsimp only; done) | rfl), rfl⟩

def F_size (list : List Int) : Int :=
  (list.length : Int)
theorem cf_size (args : Array Value) (w : World) : (callFunc 21 args).run Tryd.prog w = .ok (.enter 21 args) w := by kernel_rfl
set_option maxRecDepth 100000 in
theorem c_size (listA : Option Addr) (listN listC : Nat) (list : List Int) (w : World) (listR : RdS w 1 listA listN listC list) :
    Calls Tryd.prog 21 #[.slice listA listN listC] w (Ret fun v w' => v = .int .i64 (F_size list) ∧ w = w') := by
  obtain rfl : listN = list.length := listR.len1.symm
  have listLe := listR.le
  have hS := St.nil w
  have hS1 := St.rd0 hS rfl listR; clear hS
  refine enter (args := [.slice listA list.length listC]) Tryd.func21 rfl rfl ?_
  rw [Tryd.ntmps21]; intro a hE
  have hE := hE.sub (L' := [(0, .slice listA list.length listC)]) ⟨rfl, trivial⟩
  refine c_seq ?_
  refine c_reg ?_
  refine q_step (v := .int .i64 0) hE (y_assign rfl) rfl rfl rfl ?_; intro a2 hE3; clear hE
  refine c_nil ?_
  have hE4 := hE3.sub (L' := [(0, .slice listA list.length listC)]) ⟨rfl, trivial⟩; clear hE3
  refine p_tn ?_
  refine c_seq ?_
  refine c_reg ?_
  refine q_step (v := .slice listA list.length listC) hE4 (y_move rfl) rfl rfl rfl ?_; intro a5 hE6; clear hE4
  refine q_step (v := .int .i64 (list.length : Int)) hE6 (y_len (e := 2) (by kernel_rfl) rfl) rfl rfl rfl ?_; intro a7 hE8; clear hE6
  refine q_step (v := .int .i64 (list.length : Int)) hE8 (y_assign rfl) rfl rfl rfl ?_; intro a9 hE10; clear hE8
  refine c_nil ?_
  have hE11 := hE10.sub (L' := [(2, .int .i64 (list.length : Int))]) ⟨rfl, trivial⟩; clear hE10
  refine p_tn ?_
  refine wp_ret ?_
  have hF : F_size list = (list.length : Int) := by unfold F_size; rfl
  refine c_ret1 hE11 rfl rfl ?_
  exact ⟨(by rw [hF]; first | done | (dsimp only; done) | rfl), rfl⟩

theorem d_size (listA : Option Addr) (listN listC : Nat) (list : List Int) (w : World) (listR : RdS w 1 listA listN listC list) :
    Calls Tryd.prog 21 #[.slice listA listN listC] w (Ret fun v w' => v = .int .i64 (list.length : Int) ∧ w = w') := c_size listA listN listC list w listR

def F_isMask (np : Int) (mask : Int) : Bool :=
  ((F_inRange np 0 30) && (F_inRange mask 0 (wI ((shlI 1 np) - 1))))
theorem cf_isMask (args : Array Value) (w : World) : (callFunc 30 args).run Tryd.prog w = .ok (.enter 30 args) w := by kernel_rfl
set_option maxRecDepth 100000 in
theorem c_isMask (np : Int) (mask : Int) (w : World) :
    Calls Tryd.prog 30 #[.int .i64 np, .int .i64 mask] w (Ret fun v w' => v = .bool (F_isMask np mask) ∧ w = w') := by
  have hS := St.nil w
  refine enter (args := [.int .i64 np, .int .i64 mask]) Tryd.func30 rfl rfl ?_
  rw [Tryd.ntmps30]; intro a hE
  have hE := hE.sub (L' := [(0, .int .i64 np), (1, .int .i64 mask)]) ⟨rfl, rfl, trivial⟩
  refine c_seq ?_
  refine c_reg ?_
  refine q_step (v := .bool false) hE (y_assign rfl) rfl rfl rfl ?_; intro a1 hE2; clear hE
  refine c_nil ?_
  have hE3 := hE2.sub (L' := [(0, .int .i64 np), (1, .int .i64 mask)]) ⟨rfl, rfl, trivial⟩; clear hE2
  refine p_tn ?_
  refine c_cut (fun a' w' => w = w' ∧ E a' 14 [(4, .bool ((F_inRange np 0 30) && (F_inRange mask 0 (wI ((shlI 1 np) - 1)))))]) ?_ ?_
  ·
   refine c_reg ?_
   refine q_step (v := .int .i64 np) hE3 (y_move rfl) rfl rfl rfl ?_; intro a4 hE5; clear hE3
   refine l_step hE5 rfl (l_call (f := 20) (argv := [.int .i64 np, .int .i64 0, .int .i64 30]) hE5 (fun _ => cf_inRange _ _) rfl rfl (c_inRange np 0 30 w) ?_)
   rintro _ _ ⟨rfl, rfl⟩ a8 hE9; clear hE5
   refine q_step (v := .bool (F_inRange np 0 30)) hE9 (y_move rfl) rfl rfl rfl ?_; intro a12 hE13; clear hE9
   rcases Bool.eq_false_or_eq_true (F_inRange np 0 30) with hb14 | hb14
   ·
    have hE15 := hE13; (try rw [hb14] at hE15); clear hE13
    have hp16 := F_inRange_t hb14
    refine q_step (v := .int .i64 mask) hE15 (y_move rfl) rfl rfl rfl ?_; intro a17 hE18; clear hE15
    refine q_step (v := .int .i64 np) hE18 (y_move rfl) rfl rfl rfl ?_; intro a19 hE20; clear hE18
    refine q_step (v := .int .i64 (shlI 1 np)) hE20 (y_shl rfl rfl (by omega)) rfl rfl rfl ?_; intro a21 hE22; clear hE20
    refine q_step (v := .int .i64 (wI ((shlI 1 np) - 1))) hE22 (y_subw rfl rfl) rfl rfl rfl ?_; intro a23 hE24; clear hE22
    refine l_step hE24 rfl (l_call (f := 20) (argv := [.int .i64 mask, .int .i64 0, .int .i64 (wI ((shlI 1 np) - 1))]) hE24 (fun _ => cf_inRange _ _) rfl rfl (c_inRange mask 0 (wI ((shlI 1 np) - 1)) w) ?_)
    rintro _ _ ⟨rfl, rfl⟩ a27 hE28; clear hE24
    refine q_step (v := .bool (F_inRange mask 0 (wI ((shlI 1 np) - 1)))) hE28 (y_pick (b := true) rfl rfl) rfl rfl rfl ?_; intro a31 hE32; clear hE28
    refine q_step (v := .bool (F_inRange mask 0 (wI ((shlI 1 np) - 1)))) hE32 (y_assign rfl) rfl rfl rfl ?_; intro a33 hE34; clear hE32
    refine c_nil ?_
    have hE35 := hE34.sub (L' := [(4, .bool (F_inRange mask 0 (wI ((shlI 1 np) - 1))))]) ⟨rfl, trivial⟩; clear hE34
    refine p_tn ?_
    have hE36 := hE35.sub (L' := [(4, .bool (F_inRange mask 0 (wI ((shlI 1 np) - 1))))]) ⟨rfl, trivial⟩
    exact ⟨rfl, (by rw [hb14]; exact hE36)⟩
   ·
    have hE37 := hE13; (try rw [hb14] at hE37); clear hE13
    refine q_skip hE37 rfl rfl rfl ?_; intro a38 hE39; clear hE37
    refine q_skip hE39 rfl rfl rfl ?_; intro a40 hE41; clear hE39
    refine q_skip hE41 rfl rfl rfl ?_; intro a42 hE43; clear hE41
    refine q_skip hE43 rfl rfl rfl ?_; intro a44 hE45; clear hE43
    refine q_skip hE45 rfl rfl rfl ?_; intro a46 hE47; clear hE45
    refine q_step (v := .bool false) hE47 (y_pick (b := false) rfl rfl) rfl rfl rfl ?_; intro a48 hE49; clear hE47
    refine q_step (v := .bool false) hE49 (y_assign rfl) rfl rfl rfl ?_; intro a50 hE51; clear hE49
    refine c_nil ?_
    have hE52 := hE51.sub (L' := [(4, .bool false)]) ⟨rfl, trivial⟩; clear hE51
    refine p_tn ?_
    have hE53 := hE52.sub (L' := [(4, .bool false)]) ⟨rfl, trivial⟩
    exact ⟨rfl, (by rw [hb14]; exact hE53)⟩
  ·
   rintro a54 _ ⟨rfl, hE56⟩; clear hE3
   refine wp_ret ?_
   have hF : F_isMask np mask = ((F_inRange np 0 30) && (F_inRange mask 0 (wI ((shlI 1 np) - 1)))) := by unfold F_isMask; rfl
   refine c_ret1 hE56 rfl rfl ?_
   exact ⟨(by rw [hF]; first | done | (dsimp only; done) | rfl), rfl⟩

def F_isRelation_k1 (mask : Int) (cap0 : List Int) : Bool :=
  (!(F_isMask (cap0.length : Int) mask))
theorem cf_isRelation_k1 (args : Array Value) (w : World) : (callFunc 29 args).run Tryd.prog w = .ok (.enter 29 args) w := by kernel_rfl
set_option maxRecDepth 100000 in
theorem c_isRelation_k1 (mask : Int) (cap0B : Nat) (cap0A : Option Addr) (cap0N cap0C : Nat) (cap0 : List Int) (w : World) (cap0R : RdS w 1 cap0A cap0N cap0C cap0) (cap0H : w.heap[cap0B]? = some (.cells #[.slice cap0A cap0N cap0C] 22 (0, 0))) :
    Calls Tryd.prog 29 #[.int .i64 mask, .pointer (some ⟨cap0B, 0, none⟩)] w (Ret fun v w' => v = .bool (F_isRelation_k1 mask cap0) ∧ w = w') := by
  obtain rfl : cap0N = cap0.length := cap0R.len1.symm
  have cap0Le := cap0R.le
  have hS := St.nil w
  have hS1 := St.rd0 hS rfl cap0R; clear hS
  have hS2 := St.rb0 hS1 rfl cap0H; clear hS1
  refine enter (args := [.int .i64 mask, .pointer (some ⟨cap0B, 0, none⟩)]) Tryd.func29 rfl rfl ?_
  rw [Tryd.ntmps29]; intro a hE
  have hE := hE.sub (L' := [(0, .int .i64 mask), (1, .pointer (some ⟨cap0B, 0, none⟩))]) ⟨rfl, rfl, trivial⟩
  refine c_seq ?_
  refine c_reg ?_
  refine q_step (v := .bool false) hE (y_assign rfl) rfl rfl rfl ?_; intro a3 hE4; clear hE
  refine c_nil ?_
  have hE5 := hE4.sub (L' := [(0, .int .i64 mask), (1, .pointer (some ⟨cap0B, 0, none⟩))]) ⟨rfl, rfl, trivial⟩; clear hE4
  refine p_tn ?_
  refine c_seq ?_
  refine c_reg ?_
  refine q_step (v := .slice cap0A cap0.length cap0C) hE5 (y_load (fun _ => by kernel_rfl) rfl (St.cellR (i := 0) hS2 rfl rfl)) rfl rfl rfl ?_; intro a6 hE7; clear hE5
  refine l_step hE7 rfl (l_call (f := 21) (argv := [.slice cap0A cap0.length cap0C]) hE7 (fun _ => cf_size _ _) rfl rfl (d_size cap0A cap0.length cap0C cap0 w (St.rdR (i := 1) hS2 rfl)) ?_)
  rintro _ _ ⟨rfl, rfl⟩ a10 hE11; clear hE7
  refine q_step (v := .int .i64 mask) hE11 (y_move rfl) rfl rfl rfl ?_; intro a14 hE15; clear hE11
  refine l_step hE15 rfl (l_call (f := 30) (argv := [.int .i64 (cap0.length : Int), .int .i64 mask]) hE15 (fun _ => cf_isMask _ _) rfl rfl (c_isMask (cap0.length : Int) mask w) ?_)
  rintro _ _ ⟨rfl, rfl⟩ a18 hE19; clear hE15
  refine q_step (v := .bool (!(F_isMask (cap0.length : Int) mask))) hE19 (y_not rfl) rfl rfl rfl ?_; intro a22 hE23; clear hE19
  refine q_step (v := .bool (!(F_isMask (cap0.length : Int) mask))) hE23 (y_assign rfl) rfl rfl rfl ?_; intro a24 hE25; clear hE23
  refine c_nil ?_
  have hE26 := hE25.sub (L' := [(3, .bool (!(F_isMask (cap0.length : Int) mask)))]) ⟨rfl, trivial⟩; clear hE25
  refine p_tn ?_
  refine wp_ret ?_
  have hF : F_isRelation_k1 mask cap0 = (!(F_isMask (cap0.length : Int) mask)) := by unfold F_isRelation_k1; rfl
  refine c_ret1 hE26 rfl rfl ?_
  exact ⟨(by rw [hF]; first | done | (dsimp only; done) | rfl), rfl⟩

def F_z_IndexFunc_L1b (sp : List Int) (fp : Int → Bool) (rec : Int → Except (Int) (Int)) (t8 : Int) : Except (Int) (Int) :=
  bif (decide (t8 < (sp.length : Int))) then (bif (fp (gI sp t8)) then (.error t8) else (rec (t8 + 1))) else (.ok t8)
def F_z_IndexFunc_L1 (sp : List Int) (fp : Int → Bool) : Nat → Int → Except (Int) (Int)
  | 0, t8 => .ok t8
  | r + 1, t8 => F_z_IndexFunc_L1b sp fp (F_z_IndexFunc_L1 sp fp r) t8
def F_z_IndexFunc (sp : List Int) (fp : Int → Bool) : Int :=
  bif (isOk (F_z_IndexFunc_L1 sp fp (Int.toNat ((sp.length : Int) - 0) + 1) 0)) then (-1) else (errD (F_z_IndexFunc_L1 sp fp (Int.toNat ((sp.length : Int) - 0) + 1) 0))
theorem cf_z_IndexFunc (args : Array Value) (w : World) : (callFunc 35 args).run Tryd.prog w = .ok (.enter 35 args) w := by kernel_rfl
set_option maxRecDepth 100000 in
theorem c_z_IndexFunc (spA : Option Addr) (spN spC : Nat) (sp : List Int) (fpF : FuncId) (fpC : List Value) (fp : Int → Bool) (fpD : Int → Prop) (w : World) (spR : RdS w 1 spA spN spC sp) (fpE : ∀ args w, (callFunc fpF args).run Tryd.prog w = .ok (.enter fpF args) w) (fpH : ∀ (x0 : Int) (w' : World), fpD x0 → Ext w w' → Calls Tryd.prog fpF (([.int .i64 x0] ++ fpC : List Value).toArray) w' (Ret fun v w'' => v = .bool (fp x0) ∧ Ext w' w'')) (fpDom : ∀ m : Int, 0 ≤ m → m < (sp.length : Int) → fpD (gI sp m)) :
    Calls Tryd.prog 35 #[.slice spA spN spC, .func (.func fpF) #[] fpC.toArray] w (Ret fun v w' => v = .int .i64 (F_z_IndexFunc sp fp) ∧ Ext w w') := by
  obtain rfl : spN = sp.length := spR.len1.symm
  have spLe := spR.le
  have hS := St.nil w
  have hS1 := St.rd0 hS rfl spR; clear hS
  refine enter (args := [.slice spA sp.length spC, .func (.func fpF) #[] fpC.toArray]) Tryd.func35 rfl rfl ?_
  rw [Tryd.ntmps35]; intro a hE
  have hE := hE.sub (L' := [(0, .slice spA sp.length spC), (1, .func (.func fpF) #[] fpC.toArray)]) ⟨rfl, rfl, trivial⟩
  refine c_seq ?_
  refine c_reg ?_
  refine q_step (v := .int .i64 0) hE (y_assign rfl) rfl rfl rfl ?_; intro a2 hE3; clear hE
  refine c_nil ?_
  have hE4 := hE3.sub (L' := [(0, .slice spA sp.length spC), (1, .func (.func fpF) #[] fpC.toArray)]) ⟨rfl, rfl, trivial⟩; clear hE3
  refine p_tn ?_
  refine c_seq ?_
  refine c_seq ?_
  refine c_reg ?_
  refine q_step (v := .slice spA sp.length spC) hE4 (y_move rfl) rfl rfl rfl ?_; intro a5 hE6; clear hE4
  refine q_step (v := .int .i64 (sp.length : Int)) hE6 (y_len (e := 2) (by kernel_rfl) rfl) rfl rfl rfl ?_; intro a7 hE8; clear hE6
  refine q_step (v := .int .i64 0) hE8 (y_move rfl) rfl rfl rfl ?_; intro a9 hE10; clear hE8
  refine c_nil ?_
  have hE11 := hE10.sub (L' := [(0, .slice spA sp.length spC), (1, .func (.func fpF) #[] fpC.toArray), (7, .int .i64 (sp.length : Int)), (8, .int .i64 0)]) ⟨rfl, rfl, rfl, rfl, trivial⟩; clear hE10
  refine p_tn ?_
  refine c_cut1 (fun a' w' => isOk (F_z_IndexFunc_L1 sp fp (Int.toNat ((sp.length : Int) - 0) + 1) 0) = true ∧ (0 ≤ (okD (F_z_IndexFunc_L1 sp fp (Int.toNat ((sp.length : Int) - 0) + 1) 0))) ∧ ((okD (F_z_IndexFunc_L1 sp fp (Int.toNat ((sp.length : Int) - 0) + 1) 0)) ≤ (sp.length : Int)) ∧ E a' 19 [(0, .slice spA sp.length spC), (1, .func (.func fpF) #[] fpC.toArray), (7, .int .i64 (sp.length : Int)), (8, .int .i64 (okD (F_z_IndexFunc_L1 sp fp (Int.toNat ((sp.length : Int) - 0) + 1) 0)))] ∧ St w w' [.rd 1 spA sp.length spC sp]) ?_ ?_
  ·
   refine wp_block ?_
   refine c_loop (fun r a' w' => ∃ t8 : Int, F_z_IndexFunc_L1 sp fp r t8 = F_z_IndexFunc_L1 sp fp (Int.toNat ((sp.length : Int) - 0) + 1) 0 ∧ Int.toNat ((sp.length : Int) - t8) < r ∧ (0 ≤ t8) ∧ (t8 ≤ (sp.length : Int)) ∧ E a' 19 [(0, .slice spA sp.length spC), (1, .func (.func fpF) #[] fpC.toArray), (7, .int .i64 (sp.length : Int)), (8, .int .i64 t8)] ∧ St w w' [.rd 1 spA sp.length spC sp]) (r := (Int.toNat ((sp.length : Int) - 0) + 1)) ?_ ?_
   · exact ⟨0, rfl, Nat.lt_succ_self _, (by first | omega | (simp only [sS_len, sL_len]; omega) | (simp only [List.length_replicate, sI_len]; omega) | (simp only [List.length_append, List.length_cons, List.length_nil, sI_len, cond_true, cond_false]; omega) | (simp only [List.length_append, List.length_cons, List.length_nil, sI_len, cond_eq_ite, apply_ite List.length]; split <;> simp only [List.length_append, List.length_cons, List.length_nil, sI_len] <;> omega) | grind), (by first | omega | (simp only [sS_len, sL_len]; omega) | (simp only [List.length_replicate, sI_len]; omega) | (simp only [List.length_append, List.length_cons, List.length_nil, sI_len, cond_true, cond_false]; omega) | (simp only [List.length_append, List.length_cons, List.length_nil, sI_len, cond_eq_ite, apply_ite List.length]; split <;> simp only [List.length_append, List.length_cons, List.length_nil, sI_len] <;> omega) | grind), (hE11.sub (L' := [(0, .slice spA sp.length spC), (1, .func (.func fpF) #[] fpC.toArray), (7, .int .i64 (sp.length : Int)), (8, .int .i64 0)]) ⟨rfl, rfl, rfl, rfl, trivial⟩), (St.pick (Γ' := [.rd 1 spA sp.length spC sp]) hS1 [0] (by decide) rfl)⟩
   ·
    clear hE11 hS1
    rintro r21 a13 w14 ⟨t8, hT17, hr18, hi19, hi20, hE15, hS16⟩
    obtain ⟨r21, rfl⟩ : ∃ r', r21 = r' + 1 := ⟨r21 - 1, by omega⟩
    refine c_seq ?_
    refine c_reg ?_
    refine q_step (v := .bool (decide (t8 < (sp.length : Int)))) hE15 (y_lss rfl rfl) rfl rfl rfl ?_; intro a22 hE23; clear hE15
    refine c_nil ?_
    have hE24 := hE23.sub (L' := [(0, .slice spA sp.length spC), (1, .func (.func fpF) #[] fpC.toArray), (7, .int .i64 (sp.length : Int)), (8, .int .i64 t8), (9, .bool (decide (t8 < (sp.length : Int))))]) ⟨rfl, rfl, rfl, rfl, rfl, trivial⟩; clear hE23
    refine p_tn ?_
    refine c_seq ?_
    refine c_cond hE24 rfl (fun ht25 => ?_) (fun ht25 => ?_)
    ·
     have hp26 := of_decide_eq_true ht25
     have hE27 := hE24; rw [ht25] at hE27; clear hE24
     refine wp_skip ?_
     refine p_tn ?_
     refine c_seq ?_
     refine wp_block ?_
     refine c_seq ?_
     refine c_reg ?_
     refine q_step (v := .int .i64 t8) hE27 (y_move rfl) rfl rfl rfl ?_; intro a28 hE29; clear hE27
     refine q_step (v := .int .i64 t8) hE29 (y_assign rfl) rfl rfl rfl ?_; intro a30 hE31; clear hE29
     refine c_nil ?_
     have hE32 := hE31.sub (L' := [(0, .slice spA sp.length spC), (1, .func (.func fpF) #[] fpC.toArray), (5, .int .i64 t8), (7, .int .i64 (sp.length : Int)), (8, .int .i64 t8)]) ⟨rfl, rfl, rfl, rfl, rfl, trivial⟩; clear hE31
     refine p_tn ?_
     refine c_seq ?_
     refine c_reg ?_
     refine q_step (v := .func (.func fpF) #[] fpC.toArray) hE32 (y_move rfl) rfl rfl rfl ?_; intro a33 hE34; clear hE32
     refine q_step (v := .slice spA sp.length spC) hE34 (y_move rfl) rfl rfl rfl ?_; intro a35 hE36; clear hE34
     refine q_step (v := .int .i64 t8) hE36 (y_move rfl) rfl rfl rfl ?_; intro a37 hE38; clear hE36
     refine q_step (v := .pointer (some (adr spA (Int.toNat t8)))) hE38 (y_idx (by kernel_rfl) (fun _ => by kernel_rfl) rfl rfl (RdS.isS (m := t8) (St.rdR (i := 0) hS16 rfl) (by omega) (by omega)) (by omega) (by omega) (Nat.mul_one _).symm) rfl rfl rfl ?_; intro a39 hE40; clear hE38
     refine q_step (v := .int .i64 (gI sp t8)) hE40 (y_load (fun _ => by kernel_rfl) rfl (RdS.elt (St.rdR (i := 0) hS16 rfl) (by omega) (by omega))) rfl rfl rfl ?_; intro a41 hE42; clear hE40
     refine l_step hE42 rfl (l_callv (f := fpF) (caps := fpC) (argv := [.int .i64 (gI sp t8)]) hE42 rfl (fun _ => fpE _ _) rfl rfl (fpH (gI sp t8) w14 (fpDom t8 (by omega) (by omega)) hS16.ext) ?_)
     rintro _ w44 ⟨rfl, he48⟩ a45 hE46; clear hE42
     have hS47 := St.go hS16 he48; clear hS16
     refine c_nil ?_
     have hE49 := hE46.sub (L' := [(0, .slice spA sp.length spC), (1, .func (.func fpF) #[] fpC.toArray), (5, .int .i64 t8), (7, .int .i64 (sp.length : Int)), (8, .int .i64 t8), (16, .bool (fp (gI sp t8)))]) ⟨rfl, rfl, rfl, rfl, rfl, rfl, trivial⟩; clear hE46
     refine p_tn ?_
     refine c_cond hE49 rfl (fun ht50 => ?_) (fun ht50 => ?_)
     ·
      have hE51 := hE49; rw [ht50] at hE51; clear hE49
      refine c_seq ?_
      refine c_reg ?_
      refine q_step (v := .int .i64 t8) hE51 (y_move rfl) rfl rfl rfl ?_; intro a52 hE53; clear hE51
      refine q_step (v := .int .i64 t8) hE53 (y_assign rfl) rfl rfl rfl ?_; intro a54 hE55; clear hE53
      refine c_nil ?_
      have hE56 := hE55.sub (L' := [(4, .int .i64 t8)]) ⟨rfl, trivial⟩; clear hE55
      refine p_tn ?_
      refine wp_ret ?_
      refine p_br ?_
      refine p_tr ?_
      have hX57 : F_z_IndexFunc_L1 sp fp (Int.toNat ((sp.length : Int) - 0) + 1) 0 = .error t8 := hT17.symm.trans (show F_z_IndexFunc_L1b sp fp (F_z_IndexFunc_L1 sp fp r21) t8 = .error t8 by unfold F_z_IndexFunc_L1b; rw [ht50, ht25]; first | done | rfl)
      refine p_tr (p_br (p_tr ?_))
      refine p_tr ?_
      have hF : F_z_IndexFunc sp fp = t8 := by unfold F_z_IndexFunc; rw [hX57]; first | done | rfl
      refine c_ret1 hE56 rfl rfl ?_
      exact ⟨(by rw [hF]; first | done | (dsimp only; done) | rfl), hS47.ext⟩
     ·
      have hE58 := hE49; rw [ht50] at hE58; clear hE49
      refine wp_skip ?_
      refine p_bn ?_
      refine p_tn ?_
      refine c_reg ?_
      refine q_step (v := .int .i64 (t8 + 1)) hE58 (y_add rfl rfl ⟨(by omega), (by omega)⟩) rfl rfl rfl ?_; intro a59 hE60; clear hE58
      refine q_step (v := .int .i64 (t8 + 1)) hE60 (y_move rfl) rfl rfl rfl ?_; intro a61 hE62; clear hE60
      refine c_nil ?_
      have hE63 := hE62.sub (L' := [(0, .slice spA sp.length spC), (1, .func (.func fpF) #[] fpC.toArray), (7, .int .i64 (sp.length : Int)), (8, .int .i64 (t8 + 1))]) ⟨rfl, rfl, rfl, rfl, trivial⟩; clear hE62
      refine p_tn ⟨r21, Nat.lt_succ_self _, t8 + 1, (hT17.symm.trans (show F_z_IndexFunc_L1b sp fp (F_z_IndexFunc_L1 sp fp r21) t8 = F_z_IndexFunc_L1 sp fp r21 (t8 + 1) by unfold F_z_IndexFunc_L1b; rw [ht50, ht25]; first | done | rfl)).symm, (by omega), (by first | omega | (simp only [sS_len, sL_len]; omega) | (simp only [List.length_replicate, sI_len]; omega) | (simp only [List.length_append, List.length_cons, List.length_nil, sI_len, cond_true, cond_false]; omega) | (simp only [List.length_append, List.length_cons, List.length_nil, sI_len, cond_eq_ite, apply_ite List.length]; split <;> simp only [List.length_append, List.length_cons, List.length_nil, sI_len] <;> omega) | grind), (by first | omega | (simp only [sS_len, sL_len]; omega) | (simp only [List.length_replicate, sI_len]; omega) | (simp only [List.length_append, List.length_cons, List.length_nil, sI_len, cond_true, cond_false]; omega) | (simp only [List.length_append, List.length_cons, List.length_nil, sI_len, cond_eq_ite, apply_ite List.length]; split <;> simp only [List.length_append, List.length_cons, List.length_nil, sI_len] <;> omega) | grind), (hE63.sub (L' := [(0, .slice spA sp.length spC), (1, .func (.func fpF) #[] fpC.toArray), (7, .int .i64 (sp.length : Int)), (8, .int .i64 (t8 + 1))]) ⟨rfl, rfl, rfl, rfl, trivial⟩), (St.pick (Γ' := [.rd 1 spA sp.length spC sp]) hS47 [0] (by decide) rfl)⟩
    ·
     have hp64 := of_decide_eq_false ht25
     have hE65 := hE24; rw [ht25] at hE65; clear hE24
     refine wp_exit ?_
     refine p_te ?_
     have hX66 : F_z_IndexFunc_L1 sp fp (Int.toNat ((sp.length : Int) - 0) + 1) 0 = .ok t8 := hT17.symm.trans (show F_z_IndexFunc_L1b sp fp (F_z_IndexFunc_L1 sp fp r21) t8 = .ok t8 by unfold F_z_IndexFunc_L1b; rw [ht25]; first | done | rfl)
     refine p_te (p_be (p_tn ?_))
     exact ⟨(by rw [hX66]; rfl), (by rw [hX66]; exact (show 0 ≤ t8 from (by first | omega | (simp only [sS_len, sL_len]; omega) | (simp only [List.length_replicate, sI_len]; omega) | (simp only [List.length_append, List.length_cons, List.length_nil, sI_len, cond_true, cond_false]; omega) | (simp only [List.length_append, List.length_cons, List.length_nil, sI_len, cond_eq_ite, apply_ite List.length]; split <;> simp only [List.length_append, List.length_cons, List.length_nil, sI_len] <;> omega) | grind))), (by rw [hX66]; exact (show t8 ≤ (sp.length : Int) from (by first | omega | (simp only [sS_len, sL_len]; omega) | (simp only [List.length_replicate, sI_len]; omega) | (simp only [List.length_append, List.length_cons, List.length_nil, sI_len, cond_true, cond_false]; omega) | (simp only [List.length_append, List.length_cons, List.length_nil, sI_len, cond_eq_ite, apply_ite List.length]; split <;> simp only [List.length_append, List.length_cons, List.length_nil, sI_len] <;> omega) | grind))), (by rw [hX66]; exact (hE65.sub (L' := [(0, .slice spA sp.length spC), (1, .func (.func fpF) #[] fpC.toArray), (7, .int .i64 (sp.length : Int)), (8, .int .i64 t8)]) ⟨rfl, rfl, rfl, rfl, trivial⟩)), (St.pick (Γ' := [.rd 1 spA sp.length spC sp]) hS16 [0] (by decide) rfl)⟩
  ·
   rintro a67 w68 ⟨hO71, hi72, hi73, hE69, hS70⟩; clear hE11 hS1
   refine p_tn ?_
   refine c_seq ?_
   refine c_reg ?_
   refine q_step (v := .int .i64 (-1)) hE69 (y_assign rfl) rfl rfl rfl ?_; intro a74 hE75; clear hE69
   refine c_nil ?_
   have hE76 := hE75.sub (L' := [(4, .int .i64 (-1))]) ⟨rfl, trivial⟩; clear hE75
   refine p_tn ?_
   refine wp_ret ?_
   have hF : F_z_IndexFunc sp fp = -1 := by unfold F_z_IndexFunc; rw [hO71]; first | done | rfl
   refine c_ret1 hE76 rfl rfl ?_
   exact ⟨(by rw [hF]; first | done | (dsimp only; done) | rfl), hS70.ext⟩

def F_z_ContainsFunc (sp : List Int) (fp : Int → Bool) : Bool :=
  decide (0 ≤ (F_z_IndexFunc sp fp))
theorem cf_z_ContainsFunc (args : Array Value) (w : World) : (callFunc 28 args).run Tryd.prog w = .ok (.enter 28 args) w := by kernel_rfl
set_option maxRecDepth 100000 in
theorem c_z_ContainsFunc (spA : Option Addr) (spN spC : Nat) (sp : List Int) (fpF : FuncId) (fpC : List Value) (fp : Int → Bool) (fpD : Int → Prop) (w : World) (spR : RdS w 1 spA spN spC sp) (fpE : ∀ args w, (callFunc fpF args).run Tryd.prog w = .ok (.enter fpF args) w) (fpH : ∀ (x0 : Int) (w' : World), fpD x0 → Ext w w' → Calls Tryd.prog fpF (([.int .i64 x0] ++ fpC : List Value).toArray) w' (Ret fun v w'' => v = .bool (fp x0) ∧ Ext w' w'')) (fpDom : ∀ m : Int, 0 ≤ m → m < (sp.length : Int) → fpD (gI sp m)) :
    Calls Tryd.prog 28 #[.slice spA spN spC, .func (.func fpF) #[] fpC.toArray] w (Ret fun v w' => v = .bool (F_z_ContainsFunc sp fp) ∧ Ext w w') := by
  obtain rfl : spN = sp.length := spR.len1.symm
  have spLe := spR.le
  have hS := St.nil w
  have hS1 := St.rd0 hS rfl spR; clear hS
  refine enter (args := [.slice spA sp.length spC, .func (.func fpF) #[] fpC.toArray]) Tryd.func28 rfl rfl ?_
  rw [Tryd.ntmps28]; intro a hE
  have hE := hE.sub (L' := [(0, .slice spA sp.length spC), (1, .func (.func fpF) #[] fpC.toArray)]) ⟨rfl, rfl, trivial⟩
  refine c_seq ?_
  refine c_reg ?_
  refine q_step (v := .bool false) hE (y_assign rfl) rfl rfl rfl ?_; intro a2 hE3; clear hE
  refine c_nil ?_
  have hE4 := hE3.sub (L' := [(0, .slice spA sp.length spC), (1, .func (.func fpF) #[] fpC.toArray)]) ⟨rfl, rfl, trivial⟩; clear hE3
  refine p_tn ?_
  refine c_seq ?_
  refine c_reg ?_
  refine q_step (v := .slice spA sp.length spC) hE4 (y_move rfl) rfl rfl rfl ?_; intro a5 hE6; clear hE4
  refine q_step (v := .func (.func fpF) #[] fpC.toArray) hE6 (y_move rfl) rfl rfl rfl ?_; intro a7 hE8; clear hE6
  refine l_step hE8 rfl (l_call (f := 35) (argv := [.slice spA sp.length spC, .func (.func fpF) #[] fpC.toArray]) hE8 (fun _ => cf_z_IndexFunc _ _) rfl rfl (c_z_IndexFunc spA sp.length spC sp fpF fpC fp fpD w (St.rdR (i := 0) hS1 rfl) fpE (fun x0 w' hx he => fpH x0 w' hx (hS1.ext.trans he)) fpDom) ?_)
  rintro _ w10 ⟨rfl, he14⟩ a11 hE12; clear hE8
  have hS13 := St.go hS1 he14; clear hS1
  refine q_step (v := .bool (decide (0 ≤ (F_z_IndexFunc sp fp)))) hE12 (y_geq rfl rfl) rfl rfl rfl ?_; intro a15 hE16; clear hE12
  refine q_step (v := .bool (decide (0 ≤ (F_z_IndexFunc sp fp)))) hE16 (y_assign rfl) rfl rfl rfl ?_; intro a17 hE18; clear hE16
  refine c_nil ?_
  have hE19 := hE18.sub (L' := [(4, .bool (decide (0 ≤ (F_z_IndexFunc sp fp))))]) ⟨rfl, trivial⟩; clear hE18
  refine p_tn ?_
  refine wp_ret ?_
  have hF : F_z_ContainsFunc sp fp = decide (0 ≤ (F_z_IndexFunc sp fp)) := by unfold F_z_ContainsFunc; rfl
  refine c_ret1 hE19 rfl rfl ?_
  exact ⟨(by rw [hF]; first | done | (dsimp only; done) | rfl), hS13.ext⟩

theorem index_key (sp : List Int) (fp : Int → Bool) : ∀ (k : Nat) (i : Int), 0 ≤ i → (sp.length : Int) - i = (k : Int) →
    decide (0 ≤ (bif isOk (F_z_IndexFunc_L1 sp fp (k + 1) i) then (-1 : Int) else errD (F_z_IndexFunc_L1 sp fp (k + 1) i))) = (List.range k).any fun j => fp (gI sp (i + (j : Int))) := by
  intro k
  induction k with
  | zero =>
    intro i h0 h
    have e : F_z_IndexFunc_L1 sp fp (0 + 1) i = .ok i := by
      show F_z_IndexFunc_L1b sp fp _ i = _
      unfold F_z_IndexFunc_L1b; rw [decide_eq_false (by omega)]; rfl
    rw [e]; rfl
  | succ k ih =>
    intro i h0 h
    have e : F_z_IndexFunc_L1 sp fp (k + 1 + 1) i = bif fp (gI sp i) then .error i else F_z_IndexFunc_L1 sp fp (k + 1) (i + 1) := by
      show F_z_IndexFunc_L1b sp fp _ i = _
      unfold F_z_IndexFunc_L1b; rw [decide_eq_true (by omega)]; rfl
    rw [e, List.range_succ_eq_map, List.any_cons, List.any_map]
    cases hp : fp (gI sp i)
    · simp only [cond_false]
      rw [ih (i + 1) (by omega) (by omega)]
      simp only [Int.natCast_zero, Int.add_zero, hp, Bool.false_or, Function.comp_def]
      congr 1; funext j; congr 2; rw [Int.natCast_succ]; omega
    · simp [isOk, errD, hp, h0]
theorem contains_eq (sp : List Int) (fp : Int → Bool) : F_z_ContainsFunc sp fp = sp.any fp := by
  unfold F_z_ContainsFunc F_z_IndexFunc
  have e : Int.toNat ((sp.length : Int) - 0) = sp.length := by omega
  rw [e, index_key sp fp sp.length 0 (by omega) (by omega)]
  have := range_all_gI sp (fun x => !fp x)
  rw [List.all_eq_not_any_not, List.all_eq_not_any_not] at this
  simpa using this

def F_isRelation (ap : List Int) : Bool :=
  (!(F_z_ContainsFunc ap (fun x0 => F_isRelation_k1 x0 ap)))
theorem cf_isRelation (args : Array Value) (w : World) : (callFunc 22 args).run Tryd.prog w = .ok (.enter 22 args) w := by kernel_rfl
set_option maxRecDepth 100000 in
theorem c_isRelation (apA : Option Addr) (apN apC : Nat) (ap : List Int) (w : World) (apR : RdS w 1 apA apN apC ap) :
    Calls Tryd.prog 22 #[.slice apA apN apC] w (Ret fun v w' => v = .bool (F_isRelation ap) ∧ Ext w w') := by
  obtain rfl : apN = ap.length := apR.len1.symm
  have apLe := apR.le
  have hS := St.nil w
  have hS1 := St.rd0 hS rfl apR; clear hS
  refine enter (args := [.slice apA ap.length apC]) Tryd.func22 rfl rfl ?_
  rw [Tryd.ntmps22]; intro a hE
  have hE := hE.sub (L' := [(0, .slice apA ap.length apC)]) ⟨rfl, trivial⟩
  refine c_seq ?_
  refine c_reg ?_
  refine l_step hE rfl (l_box (v := .slice apA ap.length apC) (cs := #[.slice apA ap.length apC]) hS1 hE rfl rfl rfl ?_)
  intro b2 w3 hS6 he7 a4 hE5; clear hS1 hE
  refine q_step (v := .bool false) hE5 (y_assign rfl) rfl rfl rfl ?_; intro a8 hE9; clear hE5
  refine c_nil ?_
  have hE10 := hE9.sub (L' := [(1, .pointer (some ⟨b2, 0, none⟩))]) ⟨rfl, trivial⟩; clear hE9
  refine p_tn ?_
  refine c_seq ?_
  refine c_reg ?_
  refine q_step (v := .slice apA ap.length apC) hE10 (y_load (fun _ => by kernel_rfl) rfl (St.cell (i := 0) hS6 rfl rfl)) rfl rfl rfl ?_; intro a11 hE12; clear hE10
  refine q_step (v := .func (.func 29) #[] #[.pointer (some ⟨b2, 0, none⟩)]) hE12 (y_makeFunc (vs := [.pointer (some ⟨b2, 0, none⟩)]) rfl) rfl rfl rfl ?_; intro a13 hE14; clear hE12
  refine l_step hE14 rfl (l_call (f := 28) (argv := [.slice apA ap.length apC, .func (.func 29) #[] #[.pointer (some ⟨b2, 0, none⟩)]]) hE14 (fun _ => cf_z_ContainsFunc _ _) rfl rfl (c_z_ContainsFunc apA ap.length apC ap 29 [.pointer (some ⟨b2, 0, none⟩)] (fun x0 => F_isRelation_k1 x0 ap) (fun _ => True) w3 (St.rdR (i := 1) hS6 rfl) (fun _ _ => cf_isRelation_k1 _ _) (fun x0 w' hx he => Ret.ext (c_isRelation_k1 x0 b2 apA ap.length apC ap w' (RdS.ext (St.rdR (i := 1) hS6 rfl) he) (St.row (i := 0) hS6 rfl w' he))) (fun _ _ _ => trivial)) ?_)
  rintro _ w16 ⟨rfl, he20⟩ a17 hE18; clear hE14
  have hS19 := St.go hS6 he20; clear hS6
  refine q_step (v := .bool (!(F_z_ContainsFunc ap (fun x0 => F_isRelation_k1 x0 ap)))) hE18 (y_not rfl) rfl rfl rfl ?_; intro a21 hE22; clear hE18
  refine q_step (v := .bool (!(F_z_ContainsFunc ap (fun x0 => F_isRelation_k1 x0 ap)))) hE22 (y_assign rfl) rfl rfl rfl ?_; intro a23 hE24; clear hE22
  refine c_nil ?_
  have hE25 := hE24.sub (L' := [(2, .bool (!(F_z_ContainsFunc ap (fun x0 => F_isRelation_k1 x0 ap))))]) ⟨rfl, trivial⟩; clear hE24
  refine p_tn ?_
  refine wp_ret ?_
  have hF : F_isRelation ap = (!(F_z_ContainsFunc ap (fun x0 => F_isRelation_k1 x0 ap))) := by unfold F_isRelation; rfl
  refine c_ret1 hE25 rfl rfl ?_
  exact ⟨(by rw [hF]; first | done | (dsimp only; done) | rfl), hS19.ext⟩

theorem isMask_eq {np mask : Int} (h0 : 0 ≤ np) (h1 : np ≤ 30) : F_isMask np mask = F_l01In mask 0 (fullI np) := by
  unfold F_isMask F_inRange F_l01In
  rw [full_wI h0 (by omega)]
  rw [decide_eq_true (show (0 : Int) ≤ np from h0), decide_eq_true (show np ≤ 30 from h1)]
  rfl
theorem isRel_eq {ap : List Int} (h : ap.length ≤ 30) : F_isRelation ap = F_l01Masks ap.length ap := by
  unfold F_isRelation F_isRelation_k1
  rw [contains_eq, masks_eq, List.all_eq_not_any_not]
  congr 2; funext x
  rw [isMask_eq (by omega) (by omega)]

theorem shr_pos63 {m k : Int} (h1 : m < 4611686018427387904) (h0 : 0 ≤ k) : 0 < shrI m k → k ≤ 61 := by
  intro h
  apply Decidable.byContradiction
  intro hk
  have e : shrI m k = m / 2 ^ min k.toNat 64 := by
    unfold shrI; exact Int.fdiv_eq_ediv_of_nonneg _ (Int.pow_nonneg (by decide))
  have h2 : (2 : Int) ^ 62 ≤ 2 ^ min k.toNat 64 := by
    exact_mod_cast Nat.pow_le_pow_right (by omega) (show 62 ≤ min k.toNat 64 by omega)
  have h3 : m / 2 ^ min k.toNat 64 ≤ 0 := by
    rcases Int.lt_or_le m 0 with hm | hm
    · exact Int.le_of_lt (Int.ediv_neg_of_neg_of_pos hm (by omega))
    · rw [Int.ediv_eq_zero_of_lt hm (by omega)]; decide
  omega

def F_membersOf_L1b (mask : Int) (rec : (List Int) → Int → (List Int) × Int) (out3 : List Int) (i4 : Int) : (List Int) × Int :=
  bif (decide (0 < (shrI mask i4))) then (rec (bif (F_has mask i4) then out3 ++ ([i4]) else out3) (i4 + 1)) else (out3, i4)
def F_membersOf_L1 (mask : Int) : Nat → (List Int) → Int → (List Int) × Int
  | 0, out3, i4 => (out3, i4)
  | r + 1, out3, i4 => F_membersOf_L1b mask (F_membersOf_L1 mask r) out3 i4
def F_membersOf (mask : Int) : List Int :=
  (F_membersOf_L1 mask (Int.toNat (63 - 0) + 1) ([]) 0).1
theorem cf_membersOf (args : Array Value) (w : World) : (callFunc 25 args).run Tryd.prog w = .ok (.enter 25 args) w := by kernel_rfl
set_option maxRecDepth 100000 in
theorem c_membersOf (mask : Int) (w : World) (h0 : 0 ≤ mask) (h1 : mask < 4611686018427387904) :
    Calls Tryd.prog 25 #[.int .i64 mask] w (Ret fun v w' => ∃ b1 : Option Addr, ∃ c1 : Nat, v = .slice b1 (F_membersOf mask).length c1 ∧ OwnS w' w.heap.size 2 1 b1 (F_membersOf mask).length c1 (F_membersOf mask) ∧ Ext w w') := by
  have hS := St.nil w
  refine enter (args := [.int .i64 mask]) Tryd.func25 rfl rfl ?_
  rw [Tryd.ntmps25]; intro a hE
  have hE := hE.sub (L' := [(0, .int .i64 mask)]) ⟨rfl, trivial⟩
  refine c_seq ?_
  refine c_reg ?_
  refine q_step (v := .slice none 0 0) hE (y_assign rfl) rfl rfl rfl ?_; intro a1 hE2; clear hE
  refine c_nil ?_
  have hE3 := hE2.sub (L' := [(0, .int .i64 mask)]) ⟨rfl, trivial⟩; clear hE2
  refine p_tn ?_
  refine c_seq ?_
  refine c_reg ?_
  refine q_step (v := .slice none 0 0) hE3 (y_assign rfl) rfl rfl rfl ?_; intro a4 hE5; clear hE3
  refine c_nil ?_
  have hE6 := hE5.sub (L' := [(0, .int .i64 mask), (3, .slice none 0 0)]) ⟨rfl, rfl, trivial⟩; clear hE5
  refine p_tn ?_
  refine c_seq ?_
  refine c_seq ?_
  refine c_reg ?_
  refine q_step (v := .int .i64 0) hE6 (y_assign rfl) rfl rfl rfl ?_; intro a7 hE8; clear hE6
  refine c_nil ?_
  have hE9 := hE8.sub (L' := [(0, .int .i64 mask), (3, .slice none 0 0), (4, .int .i64 0)]) ⟨rfl, rfl, rfl, trivial⟩; clear hE8
  refine p_tn ?_
  have hS10 := St.nils hS 2 1; clear hS
  refine c_cut1 (fun a' w' => ∃ out3A_11 : Option Addr, ∃ out3C_11 : Nat, (0 ≤ ((F_membersOf_L1 mask (Int.toNat (63 - 0) + 1) ([]) 0).2)) ∧ (((F_membersOf_L1 mask (Int.toNat (63 - 0) + 1) ([]) 0).2) ≤ 62) ∧ ((((F_membersOf_L1 mask (Int.toNat (63 - 0) + 1) ([]) 0).1).length : Int) ≤ ((F_membersOf_L1 mask (Int.toNat (63 - 0) + 1) ([]) 0).2)) ∧ E a' 19 [(0, .int .i64 mask), (3, .slice out3A_11 (((F_membersOf_L1 mask (Int.toNat (63 - 0) + 1) ([]) 0).1).length) out3C_11), (4, .int .i64 ((F_membersOf_L1 mask (Int.toNat (63 - 0) + 1) ([]) 0).2))] ∧ St w w' [.own 2 1 out3A_11 (((F_membersOf_L1 mask (Int.toNat (63 - 0) + 1) ([]) 0).1).length) out3C_11 ((F_membersOf_L1 mask (Int.toNat (63 - 0) + 1) ([]) 0).1)]) ?_ ?_
  ·
   refine wp_block ?_
   refine c_loop (fun r a' w' => ∃ out3 : List Int, ∃ i4 : Int, ∃ out3A : Option Addr, ∃ out3C : Nat, F_membersOf_L1 mask r out3 i4 = F_membersOf_L1 mask (Int.toNat (63 - 0) + 1) ([]) 0 ∧ Int.toNat (63 - i4) < r ∧ (0 ≤ i4) ∧ (i4 ≤ 62) ∧ ((out3.length : Int) ≤ i4) ∧ E a' 19 [(0, .int .i64 mask), (3, .slice out3A ((out3).length) out3C), (4, .int .i64 i4)] ∧ St w w' [.own 2 1 out3A ((out3).length) out3C out3]) (r := (Int.toNat (63 - 0) + 1)) ?_ ?_
   · exact ⟨[], 0, none, 0, rfl, Nat.lt_succ_self _, (by first | omega | (simp only [sS_len, sL_len]; omega) | (simp only [List.length_replicate, sI_len]; omega) | (simp only [List.length_append, List.length_cons, List.length_nil, sI_len, cond_true, cond_false]; omega) | (simp only [List.length_append, List.length_cons, List.length_nil, sI_len, cond_eq_ite, apply_ite List.length]; split <;> simp only [List.length_append, List.length_cons, List.length_nil, sI_len] <;> omega) | grind), (by first | omega | (simp only [sS_len, sL_len]; omega) | (simp only [List.length_replicate, sI_len]; omega) | (simp only [List.length_append, List.length_cons, List.length_nil, sI_len, cond_true, cond_false]; omega) | (simp only [List.length_append, List.length_cons, List.length_nil, sI_len, cond_eq_ite, apply_ite List.length]; split <;> simp only [List.length_append, List.length_cons, List.length_nil, sI_len] <;> omega) | grind), (by first | omega | (simp only [sS_len, sL_len]; omega) | (simp only [List.length_replicate, sI_len]; omega) | (simp only [List.length_append, List.length_cons, List.length_nil, sI_len, cond_true, cond_false]; omega) | (simp only [List.length_append, List.length_cons, List.length_nil, sI_len, cond_eq_ite, apply_ite List.length]; split <;> simp only [List.length_append, List.length_cons, List.length_nil, sI_len] <;> omega) | grind), (hE9.sub (L' := [(0, .int .i64 mask), (3, .slice none 0 0), (4, .int .i64 0)]) ⟨rfl, rfl, rfl, trivial⟩), (St.pick (Γ' := [.own 2 1 none 0 0 ([])]) hS10 [0] (by decide) rfl)⟩
   ·
    clear hE9 hS10
    rintro r21 a12 w13 ⟨out3, i4, out3A, out3C, hT16, hr17, hi18, hi19, hi20, hE14, hS15⟩
    obtain ⟨r21, rfl⟩ : ∃ r', r21 = r' + 1 := ⟨r21 - 1, by omega⟩
    have hsh := shr_pos63 (m := mask) (k := i4) h1 (by omega)
    refine c_seq ?_
    refine c_seq ?_
    refine c_reg ?_
    refine q_step (v := .int .i64 mask) hE14 (y_move rfl) rfl rfl rfl ?_; intro a22 hE23; clear hE14
    refine q_step (v := .int .i64 i4) hE23 (y_move rfl) rfl rfl rfl ?_; intro a24 hE25; clear hE23
    refine q_step (v := .int .i64 (shrI mask i4)) hE25 (y_shr rfl rfl (by omega)) rfl rfl rfl ?_; intro a26 hE27; clear hE25
    refine q_step (v := .bool (decide (0 < (shrI mask i4)))) hE27 (y_gtr rfl rfl) rfl rfl rfl ?_; intro a28 hE29; clear hE27
    refine c_nil ?_
    have hE30 := hE29.sub (L' := [(0, .int .i64 mask), (3, .slice out3A ((out3).length) out3C), (4, .int .i64 i4), (8, .bool (decide (0 < (shrI mask i4))))]) ⟨rfl, rfl, rfl, rfl, trivial⟩; clear hE29
    refine p_tn ?_
    refine c_cond hE30 rfl (fun ht31 => ?_) (fun ht31 => ?_)
    ·
     have hp32 := of_decide_eq_true ht31
     have hE33 := hE30; rw [ht31] at hE33; clear hE30
     refine wp_skip ?_
     refine p_tn ?_
     refine c_cut (fun a' w' => ∃ b34 : Option Addr, ∃ c35 : Nat, E a' 19 [(0, .int .i64 mask), (3, .slice b34 ((bif (F_has mask i4) then out3 ++ ([i4]) else out3).length) c35), (4, .int .i64 i4)] ∧ St w w' [.own 2 1 b34 ((bif (F_has mask i4) then out3 ++ ([i4]) else out3).length) c35 (bif (F_has mask i4) then out3 ++ ([i4]) else out3)]) ?_ ?_
     ·
      refine wp_block ?_
      refine c_seq ?_
      refine c_reg ?_
      refine q_step (v := .int .i64 mask) hE33 (y_move rfl) rfl rfl rfl ?_; intro a36 hE37; clear hE33
      refine q_step (v := .int .i64 i4) hE37 (y_move rfl) rfl rfl rfl ?_; intro a38 hE39; clear hE37
      refine l_step hE39 rfl (l_call (f := 33) (argv := [.int .i64 mask, .int .i64 i4]) hE39 (fun _ => cf_has _ _) rfl rfl (c_has mask i4 w13 (by omega)) ?_)
      rintro _ _ ⟨rfl, rfl⟩ a42 hE43; clear hE39
      refine c_nil ?_
      have hE46 := hE43.sub (L' := [(0, .int .i64 mask), (3, .slice out3A ((out3).length) out3C), (4, .int .i64 i4), (13, .bool (F_has mask i4))]) ⟨rfl, rfl, rfl, rfl, trivial⟩; clear hE43
      refine p_tn ?_
      refine c_cond hE46 rfl (fun ht47 => ?_) (fun ht47 => ?_)
      ·
       have hE48 := hE46; rw [ht47] at hE48; clear hE46
       refine c_reg ?_
       refine q_step (v := .slice out3A ((out3).length) out3C) hE48 (y_move rfl) rfl rfl rfl ?_; intro a49 hE50; clear hE48
       refine q_step (v := .int .i64 i4) hE50 (y_move rfl) rfl rfl rfl ?_; intro a51 hE52; clear hE50
       refine l_step hE52 rfl (l_lit (e := 2) (s := 1) (xs := [i4]) (vs := [.int .i64 i4]) hS15 hE52 rfl (fun _ => by kernel_rfl) rfl rfl rfl ?_)
       intro b53 w54 hS57 he58 a55 hE56; clear hS15 hE52
       obtain ⟨_, hi1, hi2, hi3, hi4⟩ := info_parts (show (Tryd.prog.info? 2).map (fun i => (i.zero, i.size, i.bytes)) = some (some (.int .i64 0), 1, 8) by kernel_rfl)
       refine l_step hE56 rfl (l_append (k := 1) (n' := (out3 ++ ([i4])).length) hS57 hE56 (by kernel_rfl) hi1 hi2 hi3 rfl (by decide) (by rw [hi4]; decide) rfl rfl rfl (St.rdO (i := 0) hS57 rfl) (by first | omega | (simp only [List.length_append, List.length_cons, List.length_nil]; omega)) (by have h1 := (St.rdO (i := 1) hS57 rfl).len1; have h2 := (St.rdO (i := 0) hS57 rfl).len1; first | rw [List.length_append, h1, h2] | (simp only [List.length_append])) rfl ?_)
       intro b59 c65 w60 hS63 a61 hE62; clear hS57 hE56 hi1 hi2 hi3 hi4
       refine q_step (v := .slice b59 ((out3 ++ ([i4])).length) c65) hE62 (y_assign rfl) rfl rfl rfl ?_; intro a66 hE67; clear hE62
       refine c_nil ?_
       have hE68 := hE67.sub (L' := [(0, .int .i64 mask), (3, .slice b59 ((out3 ++ ([i4])).length) c65), (4, .int .i64 i4)]) ⟨rfl, rfl, rfl, trivial⟩; clear hE67
       refine p_bn ?_
       refine p_tn ?_
       have hE69 := hE68.sub (L' := [(0, .int .i64 mask), (3, .slice b59 ((out3 ++ ([i4])).length) c65), (4, .int .i64 i4)]) ⟨rfl, rfl, rfl, trivial⟩
       have hS70 := (St.pick (Γ' := [.own 2 1 b59 ((out3 ++ ([i4])).length) c65 (out3 ++ ([i4]))]) hS63 [1] (by decide) rfl)
       exact ⟨b59, c65, (by rw [ht47]; exact hE69), (by rw [ht47]; exact hS70)⟩
      ·
       have hE71 := hE46; rw [ht47] at hE71; clear hE46
       refine wp_skip ?_
       refine p_bn ?_
       refine p_tn ?_
       have hE72 := hE71.sub (L' := [(0, .int .i64 mask), (3, .slice out3A ((out3).length) out3C), (4, .int .i64 i4)]) ⟨rfl, rfl, rfl, trivial⟩
       have hS73 := (St.pick (Γ' := [.own 2 1 out3A ((out3).length) out3C out3]) hS15 [0] (by decide) rfl)
       exact ⟨out3A, out3C, (by rw [ht47]; exact hE72), (by rw [ht47]; exact hS73)⟩
     ·
      rintro a74 w75 ⟨b34, c35, hE76, hS77⟩; clear hE33 hS15
      refine c_reg ?_
      refine q_step (v := .int .i64 i4) hE76 (y_move rfl) rfl rfl rfl ?_; intro a79 hE80; clear hE76
      refine q_step (v := .int .i64 (i4 + 1)) hE80 (y_add rfl rfl ⟨(by omega), (by omega)⟩) rfl rfl rfl ?_; intro a81 hE82; clear hE80
      refine q_step (v := .int .i64 (i4 + 1)) hE82 (y_assign rfl) rfl rfl rfl ?_; intro a83 hE84; clear hE82
      refine c_nil ?_
      have hE85 := hE84.sub (L' := [(0, .int .i64 mask), (3, .slice b34 ((bif (F_has mask i4) then out3 ++ ([i4]) else out3).length) c35), (4, .int .i64 (i4 + 1))]) ⟨rfl, rfl, rfl, trivial⟩; clear hE84
      have hl86 := (St.rdO (i := 0) hS77 rfl).len1
      refine p_tn ⟨r21, Nat.lt_succ_self _, bif (F_has mask i4) then out3 ++ ([i4]) else out3, i4 + 1, b34, c35, (hT16.symm.trans (show F_membersOf_L1b mask (F_membersOf_L1 mask r21) out3 i4 = F_membersOf_L1 mask r21 (bif (F_has mask i4) then out3 ++ ([i4]) else out3) (i4 + 1) by unfold F_membersOf_L1b; rw [ht31]; first | done | rfl)).symm, (by omega), (by first | omega | (simp only [sS_len, sL_len]; omega) | (simp only [List.length_replicate, sI_len]; omega) | (simp only [List.length_append, List.length_cons, List.length_nil, sI_len, cond_true, cond_false]; omega) | (simp only [List.length_append, List.length_cons, List.length_nil, sI_len, cond_eq_ite, apply_ite List.length]; split <;> simp only [List.length_append, List.length_cons, List.length_nil, sI_len] <;> omega) | grind), (by first | omega | (simp only [sS_len, sL_len]; omega) | (simp only [List.length_replicate, sI_len]; omega) | (simp only [List.length_append, List.length_cons, List.length_nil, sI_len, cond_true, cond_false]; omega) | (simp only [List.length_append, List.length_cons, List.length_nil, sI_len, cond_eq_ite, apply_ite List.length]; split <;> simp only [List.length_append, List.length_cons, List.length_nil, sI_len] <;> omega) | grind), (by first | omega | (simp only [sS_len, sL_len]; omega) | (simp only [List.length_replicate, sI_len]; omega) | (simp only [List.length_append, List.length_cons, List.length_nil, sI_len, cond_true, cond_false]; omega) | (simp only [List.length_append, List.length_cons, List.length_nil, sI_len, cond_eq_ite, apply_ite List.length]; split <;> simp only [List.length_append, List.length_cons, List.length_nil, sI_len] <;> omega) | grind), (hE85.sub (L' := [(0, .int .i64 mask), (3, .slice b34 ((bif (F_has mask i4) then out3 ++ ([i4]) else out3).length) c35), (4, .int .i64 (i4 + 1))]) ⟨rfl, rfl, rfl, trivial⟩), (St.pick (Γ' := [.own 2 1 b34 ((bif (F_has mask i4) then out3 ++ ([i4]) else out3).length) c35 (bif (F_has mask i4) then out3 ++ ([i4]) else out3)]) hS77 [0] (by decide) rfl)⟩
    ·
     have hp87 := of_decide_eq_false ht31
     have hE88 := hE30; rw [ht31] at hE88; clear hE30
     refine wp_exit ?_
     refine p_te ?_
     have hX89 : F_membersOf_L1 mask (Int.toNat (63 - 0) + 1) ([]) 0 = (out3, i4) := hT16.symm.trans (show F_membersOf_L1b mask (F_membersOf_L1 mask r21) out3 i4 = (out3, i4) by unfold F_membersOf_L1b; rw [ht31]; first | done | rfl)
     refine p_te (p_be (p_tn ?_))
     exact ⟨out3A, out3C, (by rw [hX89]; exact (show 0 ≤ i4 from (by first | omega | (simp only [sS_len, sL_len]; omega) | (simp only [List.length_replicate, sI_len]; omega) | (simp only [List.length_append, List.length_cons, List.length_nil, sI_len, cond_true, cond_false]; omega) | (simp only [List.length_append, List.length_cons, List.length_nil, sI_len, cond_eq_ite, apply_ite List.length]; split <;> simp only [List.length_append, List.length_cons, List.length_nil, sI_len] <;> omega) | grind))), (by rw [hX89]; exact (show i4 ≤ 62 from (by first | omega | (simp only [sS_len, sL_len]; omega) | (simp only [List.length_replicate, sI_len]; omega) | (simp only [List.length_append, List.length_cons, List.length_nil, sI_len, cond_true, cond_false]; omega) | (simp only [List.length_append, List.length_cons, List.length_nil, sI_len, cond_eq_ite, apply_ite List.length]; split <;> simp only [List.length_append, List.length_cons, List.length_nil, sI_len] <;> omega) | grind))), (by rw [hX89]; exact (show (out3.length : Int) ≤ i4 from (by first | omega | (simp only [sS_len, sL_len]; omega) | (simp only [List.length_replicate, sI_len]; omega) | (simp only [List.length_append, List.length_cons, List.length_nil, sI_len, cond_true, cond_false]; omega) | (simp only [List.length_append, List.length_cons, List.length_nil, sI_len, cond_eq_ite, apply_ite List.length]; split <;> simp only [List.length_append, List.length_cons, List.length_nil, sI_len] <;> omega) | grind))), (by rw [hX89]; exact (hE88.sub (L' := [(0, .int .i64 mask), (3, .slice out3A ((out3).length) out3C), (4, .int .i64 i4)]) ⟨rfl, rfl, rfl, trivial⟩)), (by rw [hX89]; exact (St.pick (Γ' := [.own 2 1 out3A ((out3).length) out3C out3]) hS15 [0] (by decide) rfl))⟩
  ·
   rintro a90 w91 ⟨out3A_11, out3C_11, hi95, hi96, hi97, hE92, hS93⟩; clear hE9 hS10
   refine p_tn ?_
   refine c_seq ?_
   refine c_reg ?_
   refine q_step (v := .slice out3A_11 (((F_membersOf_L1 mask (Int.toNat (63 - 0) + 1) ([]) 0).1).length) out3C_11) hE92 (y_move rfl) rfl rfl rfl ?_; intro a98 hE99; clear hE92
   refine q_step (v := .slice out3A_11 (((F_membersOf_L1 mask (Int.toNat (63 - 0) + 1) ([]) 0).1).length) out3C_11) hE99 (y_assign rfl) rfl rfl rfl ?_; intro a100 hE101; clear hE99
   refine c_nil ?_
   have hE102 := hE101.sub (L' := [(2, .slice out3A_11 (((F_membersOf_L1 mask (Int.toNat (63 - 0) + 1) ([]) 0).1).length) out3C_11)]) ⟨rfl, trivial⟩; clear hE101
   refine p_tn ?_
   refine wp_ret ?_
   have hF : F_membersOf mask = (F_membersOf_L1 mask (Int.toNat (63 - 0) + 1) ([]) 0).1 := by unfold F_membersOf; rfl
   refine c_ret1 hE102 rfl rfl ?_
   exact ⟨out3A_11, out3C_11, (by rw [hF]; first | done | (dsimp only; done) | rfl), (by rw [hF]; (try dsimp only); exact hS93.ok 0 _ rfl), hS93.ext⟩

theorem pow_shl {i : Int} (h0 : 0 ≤ i) (h1 : i ≤ 62) : shlI 1 i = powI i := shlI_one h0 h1

end Go.Proofs.YtkilkfhjfobcdaaDoor
