/- GC: models and contracts, printed by wip/gen/gen.py -/
import Derived.Test.YtkilkfhjfobcdaaKCHGB
set_option linter.unusedVariables false
set_option linter.unusedSimpArgs false
namespace Go.Proofs.Ytkilkfhjfobcdaa
open Go.RowKit
def F_inRange (xp : Int) (low : Int) (high : Int) : Bool :=
  ((decide (low ≤ xp)) && (decide (xp ≤ high)))
theorem cf_inRange (args : Array Value) (w : World) : (callFunc 75 args).run Try.prog w = .ok (.enter 75 args) w := by kernel_rfl
set_option maxRecDepth 100000 in
theorem c_inRange (xp : Int) (low : Int) (high : Int) (w : World) :
    Calls Try.prog 75 #[.int .i64 xp, .int .i64 low, .int .i64 high] w (Ret fun v w' => v = .bool (F_inRange xp low high) ∧ w = w') := by
  have hS := St.nil w
  refine enter (args := [.int .i64 xp, .int .i64 low, .int .i64 high]) Try.func75 rfl rfl ?_
  rw [Try.ntmps75]; intro a hE
  have hE := hE.sub (L' := [(0, .int .i64 xp), (1, .int .i64 low), (2, .int .i64 high)]) ⟨rfl, rfl, rfl, trivial⟩
  refine c_seq ?_
  refine c_reg ?_
  refine q_step (v := .bool false) hE (y_assign rfl) rfl rfl rfl ?_; intro a1 hE2; clear hE
  refine c_nil ?_
  have hE3 := hE2.sub (L' := [(0, .int .i64 xp), (1, .int .i64 low), (2, .int .i64 high)]) ⟨rfl, rfl, rfl, trivial⟩; clear hE2
  refine p_tn ?_
  refine c_cut (fun a' w' => w = w' ∧ E a' 15 [(6, .bool ((decide (low ≤ xp)) && (decide (xp ≤ high))))]) ?_ ?_
  ·
   refine c_reg ?_
   refine q_step (v := .int .i64 low) hE3 (y_move rfl) rfl rfl rfl ?_; intro a4 hE5; clear hE3
   refine q_step (v := .int .i64 xp) hE5 (y_move rfl) rfl rfl rfl ?_; intro a6 hE7; clear hE5
   refine q_step (v := .bool (decide (low ≤ xp))) hE7 (y_leq rfl rfl) rfl rfl rfl ?_; intro a8 hE9; clear hE7
   refine q_step (v := .bool (decide (low ≤ xp))) hE9 (y_move rfl) rfl rfl rfl ?_; intro a10 hE11; clear hE9
   rcases Bool.eq_false_or_eq_true (decide (low ≤ xp)) with hb12 | hb12
   ·
    have hE13 := hE11; (try rw [hb12] at hE13); clear hE11
    have hp14 := of_decide_eq_true hb12
    refine q_step (v := .int .i64 xp) hE13 (y_move rfl) rfl rfl rfl ?_; intro a15 hE16; clear hE13
    refine q_step (v := .int .i64 high) hE16 (y_move rfl) rfl rfl rfl ?_; intro a17 hE18; clear hE16
    refine q_step (v := .bool (decide (xp ≤ high))) hE18 (y_leq rfl rfl) rfl rfl rfl ?_; intro a19 hE20; clear hE18
    refine q_step (v := .bool (decide (xp ≤ high))) hE20 (y_pick (b := true) rfl rfl) rfl rfl rfl ?_; intro a21 hE22; clear hE20
    refine q_step (v := .bool (decide (xp ≤ high))) hE22 (y_assign rfl) rfl rfl rfl ?_; intro a23 hE24; clear hE22
    refine c_nil ?_
    have hE25 := hE24.sub (L' := [(6, .bool (decide (xp ≤ high)))]) ⟨rfl, trivial⟩; clear hE24
    refine p_tn ?_
    have hE26 := hE25.sub (L' := [(6, .bool (decide (xp ≤ high)))]) ⟨rfl, trivial⟩
    exact ⟨rfl, (by rw [hb12]; exact hE26)⟩
   ·
    have hE27 := hE11; (try rw [hb12] at hE27); clear hE11
    have hp28 := of_decide_eq_false hb12
    refine q_skip hE27 rfl rfl rfl ?_; intro a29 hE30; clear hE27
    refine q_skip hE30 rfl rfl rfl ?_; intro a31 hE32; clear hE30
    refine q_skip hE32 rfl rfl rfl ?_; intro a33 hE34; clear hE32
    refine q_step (v := .bool false) hE34 (y_pick (b := false) rfl rfl) rfl rfl rfl ?_; intro a35 hE36; clear hE34
    refine q_step (v := .bool false) hE36 (y_assign rfl) rfl rfl rfl ?_; intro a37 hE38; clear hE36
    refine c_nil ?_
    have hE39 := hE38.sub (L' := [(6, .bool false)]) ⟨rfl, trivial⟩; clear hE38
    refine p_tn ?_
    have hE40 := hE39.sub (L' := [(6, .bool false)]) ⟨rfl, trivial⟩
    exact ⟨rfl, (by rw [hb12]; exact hE40)⟩
  ·
   rintro a41 _ ⟨rfl, hE43⟩; clear hE3
   refine wp_ret ?_
   have hF : F_inRange xp low high = ((decide (low ≤ xp)) && (decide (xp ≤ high))) := by unfold F_inRange; rfl
   refine c_ret1 hE43 rfl rfl ?_
   exact ⟨(by rw [hF]; first | done | (dsimp only; done) | rfl), rfl⟩
theorem F_inRange_t {x low high : Int} (h : F_inRange x low high = true) : low ≤ x ∧ x ≤ high := by
  unfold F_inRange at h; simpa using h
def F_has (mask : Int) (i : Int) : Bool :=
  decide ((andI (shrI mask i) 1) = 1)
theorem cf_has (args : Array Value) (w : World) : (callFunc 177 args).run Try.prog w = .ok (.enter 177 args) w := by kernel_rfl
set_option maxRecDepth 100000 in
theorem c_has (mask : Int) (i : Int) (w : World) (h0 : 0 ≤ i) :
    Calls Try.prog 177 #[.int .i64 mask, .int .i64 i] w (Ret fun v w' => v = .bool (F_has mask i) ∧ w = w') := by
  have hS := St.nil w
  refine enter (args := [.int .i64 mask, .int .i64 i]) Try.func177 rfl rfl ?_
  rw [Try.ntmps177]; intro a hE
  have hE := hE.sub (L' := [(0, .int .i64 mask), (1, .int .i64 i)]) ⟨rfl, rfl, trivial⟩
  refine c_seq ?_
  refine c_reg ?_
  refine q_step (v := .bool false) hE (y_assign rfl) rfl rfl rfl ?_; intro a1 hE2; clear hE
  refine c_nil ?_
  have hE3 := hE2.sub (L' := [(0, .int .i64 mask), (1, .int .i64 i)]) ⟨rfl, rfl, trivial⟩; clear hE2
  refine p_tn ?_
  refine c_seq ?_
  refine c_reg ?_
  refine q_step (v := .int .i64 mask) hE3 (y_move rfl) rfl rfl rfl ?_; intro a4 hE5; clear hE3
  refine q_step (v := .int .i64 i) hE5 (y_move rfl) rfl rfl rfl ?_; intro a6 hE7; clear hE5
  refine q_step (v := .int .i64 (shrI mask i)) hE7 (y_shr rfl rfl (by omega)) rfl rfl rfl ?_; intro a8 hE9; clear hE7
  refine q_step (v := .int .i64 (andI (shrI mask i) 1)) hE9 (y_and rfl rfl) rfl rfl rfl ?_; intro a10 hE11; clear hE9
  refine q_step (v := .bool (decide ((andI (shrI mask i) 1) = 1))) hE11 (y_eql rfl rfl) rfl rfl rfl ?_; intro a12 hE13; clear hE11
  refine q_step (v := .bool (decide ((andI (shrI mask i) 1) = 1))) hE13 (y_assign rfl) rfl rfl rfl ?_; intro a14 hE15; clear hE13
  refine c_nil ?_
  have hE16 := hE15.sub (L' := [(4, .bool (decide ((andI (shrI mask i) 1) = 1)))]) ⟨rfl, trivial⟩; clear hE15
  refine p_tn ?_
  refine wp_ret ?_
  have hF : F_has mask i = decide ((andI (shrI mask i) 1) = 1) := by unfold F_has; rfl
  refine c_ret1 hE16 rfl rfl ?_
  exact ⟨(by rw [hF]; first | done | (dsimp only; done) | rfl), rfl⟩
def F_within (ap : Int) (bp : Int) : Bool :=
  decide ((anI ap bp) = 0)
theorem cf_within (args : Array Value) (w : World) : (callFunc 221 args).run Try.prog w = .ok (.enter 221 args) w := by kernel_rfl
set_option maxRecDepth 100000 in
theorem c_within (ap : Int) (bp : Int) (w : World) :
    Calls Try.prog 221 #[.int .i64 ap, .int .i64 bp] w (Ret fun v w' => v = .bool (F_within ap bp) ∧ w = w') := by
  have hS := St.nil w
  refine enter (args := [.int .i64 ap, .int .i64 bp]) Try.func221 rfl rfl ?_
  rw [Try.ntmps221]; intro a hE
  have hE := hE.sub (L' := [(0, .int .i64 ap), (1, .int .i64 bp)]) ⟨rfl, rfl, trivial⟩
  refine c_seq ?_
  refine c_reg ?_
  refine q_step (v := .bool false) hE (y_assign rfl) rfl rfl rfl ?_; intro a1 hE2; clear hE
  refine c_nil ?_
  have hE3 := hE2.sub (L' := [(0, .int .i64 ap), (1, .int .i64 bp)]) ⟨rfl, rfl, trivial⟩; clear hE2
  refine p_tn ?_
  refine c_seq ?_
  refine c_reg ?_
  refine q_step (v := .int .i64 ap) hE3 (y_move rfl) rfl rfl rfl ?_; intro a4 hE5; clear hE3
  refine q_step (v := .int .i64 bp) hE5 (y_move rfl) rfl rfl rfl ?_; intro a6 hE7; clear hE5
  refine q_step (v := .int .i64 (anI ap bp)) hE7 (y_andNot rfl rfl) rfl rfl rfl ?_; intro a8 hE9; clear hE7
  refine q_step (v := .bool (decide ((anI ap bp) = 0))) hE9 (y_eql rfl rfl) rfl rfl rfl ?_; intro a10 hE11; clear hE9
  refine q_step (v := .bool (decide ((anI ap bp) = 0))) hE11 (y_assign rfl) rfl rfl rfl ?_; intro a12 hE13; clear hE11
  refine c_nil ?_
  have hE14 := hE13.sub (L' := [(4, .bool (decide ((anI ap bp) = 0)))]) ⟨rfl, trivial⟩; clear hE13
  refine p_tn ?_
  refine wp_ret ?_
  have hF : F_within ap bp = decide ((anI ap bp) = 0) := by unfold F_within; rfl
  refine c_ret1 hE14 rfl rfl ?_
  exact ⟨(by rw [hF]; first | done | (dsimp only; done) | rfl), rfl⟩
def F_size (list : List Int) : Int :=
  (list.length : Int)
theorem cf_size (args : Array Value) (w : World) : (callFunc 168 args).run Try.prog w = .ok (.enter 168 args) w := by kernel_rfl
set_option maxRecDepth 100000 in
theorem c_size (listA : Option Addr) (listN listC : Nat) (list : List Int) (w : World) (listR : RdS w 1 listA listN listC list) :
    Calls Try.prog 168 #[.slice listA listN listC] w (Ret fun v w' => v = .int .i64 (F_size list) ∧ w = w') := by
  obtain rfl : listN = list.length := listR.len1.symm
  have listLe := listR.le
  have hS := St.nil w
  have hS1 := St.rd0 hS rfl listR; clear hS
  refine enter (args := [.slice listA list.length listC]) Try.func168 rfl rfl ?_
  rw [Try.ntmps168]; intro a hE
  have hE := hE.sub (L' := [(0, .slice listA list.length listC)]) ⟨rfl, trivial⟩
  refine c_seq ?_
  refine c_reg ?_
  refine q_step (v := .int .i64 0) hE (y_assign rfl) rfl rfl rfl ?_; intro a2 hE3; clear hE
  refine c_nil ?_
  have hE4 := hE3.sub (L' := [(0, .slice listA list.length listC)]) ⟨rfl, trivial⟩; clear hE3
  refine p_tn ?_
  refine c_seq ?_
  refine c_reg ?_
  refine q_step (v := .slice listA list.length listC) hE4 (y_move rfl) rfl rfl rfl ?_; intro a5 hE6; clear hE4
  refine q_step (v := .int .i64 (list.length : Int)) hE6 (y_len (e := 2) (by kernel_rfl) rfl) rfl rfl rfl ?_; intro a7 hE8; clear hE6
  refine q_step (v := .int .i64 (list.length : Int)) hE8 (y_assign rfl) rfl rfl rfl ?_; intro a9 hE10; clear hE8
  refine c_nil ?_
  have hE11 := hE10.sub (L' := [(2, .int .i64 (list.length : Int))]) ⟨rfl, trivial⟩; clear hE10
  refine p_tn ?_
  refine wp_ret ?_
  have hF : F_size list = (list.length : Int) := by unfold F_size; rfl
  refine c_ret1 hE11 rfl rfl ?_
  exact ⟨(by rw [hF]; first | done | (dsimp only; done) | rfl), rfl⟩
theorem d_size (listA : Option Addr) (listN listC : Nat) (list : List Int) (w : World) (listR : RdS w 1 listA listN listC list) :
    Calls Try.prog 168 #[.slice listA listN listC] w (Ret fun v w' => v = .int .i64 (list.length : Int) ∧ w = w') := c_size listA listN listC list w listR
def F_z_CloneS (sp : List Int) : List Int :=
  ([]) ++ sp
theorem cf_z_CloneS (args : Array Value) (w : World) : (callFunc 178 args).run Try.prog w = .ok (.enter 178 args) w := by kernel_rfl
set_option maxRecDepth 100000 in
theorem c_z_CloneS (spA : Addr) (spN spC : Nat) (sp : List Int) (w : World) (spR : RdS w 1 (some spA) spN spC sp) (hl : sp.length ≤ 1048576) :
    Calls Try.prog 178 #[.slice (some spA) spN spC] w (Ret fun v w' => ∃ b1 : Option Addr, ∃ c1 : Nat, v = .slice b1 (F_z_CloneS sp).length c1 ∧ OwnS w' w.heap.size 2 1 b1 (F_z_CloneS sp).length c1 (F_z_CloneS sp) ∧ Ext w w') := by
  obtain rfl : spN = sp.length := spR.len1.symm
  have spLe := spR.le
  have hS := St.nil w
  have hS1 := St.rd0 hS rfl spR; clear hS
  refine enter (args := [.slice (some spA) sp.length spC]) Try.func178 rfl rfl ?_
  rw [Try.ntmps178]; intro a hE
  have hE := hE.sub (L' := [(0, .slice (some spA) sp.length spC)]) ⟨rfl, trivial⟩
  refine c_seq ?_
  refine c_reg ?_
  refine q_step (v := .slice none 0 0) hE (y_assign rfl) rfl rfl rfl ?_; intro a2 hE3; clear hE
  refine c_nil ?_
  have hE4 := hE3.sub (L' := [(0, .slice (some spA) sp.length spC)]) ⟨rfl, trivial⟩; clear hE3
  refine p_tn ?_
  refine c_seq ?_
  refine c_seq ?_
  refine c_reg ?_
  refine q_step (v := .slice (some spA) sp.length spC) hE4 (y_move rfl) rfl rfl rfl ?_; intro a5 hE6; clear hE4
  refine q_step (v := .bool false) hE6 (y_eqnil (e := 2) (by kernel_rfl) rfl rfl) rfl rfl rfl ?_; intro a7 hE8; clear hE6
  refine c_nil ?_
  have hE9 := hE8.sub (L' := [(0, .slice (some spA) sp.length spC), (4, .bool false)]) ⟨rfl, rfl, trivial⟩; clear hE8
  refine p_tn ?_
  refine c_false hE9 rfl ?_
  refine wp_skip ?_
  refine p_tn ?_
  refine c_seq ?_
  refine c_reg ?_
  refine l_step hE9 rfl (l_lit (e := 2) (s := 1) (xs := []) (vs := []) hS1 hE9 rfl (fun _ => by kernel_rfl) rfl rfl rfl ?_)
  intro b10 w11 hS14 he15 a12 hE13; clear hS1 hE9
  refine q_step (v := .slice (some spA) sp.length spC) hE13 (y_move rfl) rfl rfl rfl ?_; intro a16 hE17; clear hE13
  obtain ⟨_, hi1, hi2, hi3, hi4⟩ := info_parts (show (Try.prog.info? 2).map (fun i => (i.zero, i.size, i.bytes)) = some (some (.int .i64 0), 1, 8) by kernel_rfl)
  refine l_step hE17 rfl (l_append (k := 0) (n' := (([]) ++ sp).length) hS14 hE17 (by kernel_rfl) hi1 hi2 hi3 rfl (by decide) (by rw [hi4]; decide) rfl rfl rfl (St.rdR (i := 1) hS14 rfl) (by first | omega | (simp only [List.length_append, List.length_cons, List.length_nil]; omega)) (by have h1 := (St.rdO (i := 0) hS14 rfl).len1; have h2 := (St.rdR (i := 1) hS14 rfl).len1; first | rw [List.length_append, h1, h2] | (simp only [List.length_append])) rfl ?_)
  intro b18 c24 w19 hS22 a20 hE21; clear hS14 hE17 hi1 hi2 hi3 hi4
  refine q_step (v := .slice b18 ((([]) ++ sp).length) c24) hE21 (y_assign rfl) rfl rfl rfl ?_; intro a25 hE26; clear hE21
  refine c_nil ?_
  have hE27 := hE26.sub (L' := [(2, .slice b18 ((([]) ++ sp).length) c24)]) ⟨rfl, trivial⟩; clear hE26
  refine p_tn ?_
  refine wp_ret ?_
  have hF : F_z_CloneS sp = ([]) ++ sp := by unfold F_z_CloneS; rfl
  refine c_ret1 hE27 rfl rfl ?_
  exact ⟨b18, c24, (by rw [hF]; first | done | (dsimp only; done) | rfl), (by rw [hF]; (try dsimp only); exact hS22.ok 0 _ rfl), hS22.ext⟩
set_option maxRecDepth 100000 in
theorem c_z_Clone (spA : Option Addr) (spN spC : Nat) (sp : List Int) (w : World) (spR : RdS w 1 spA spN spC sp) (hl : sp.length ≤ 1048576) :
    Calls Try.prog 178 #[.slice spA spN spC] w (Ret fun v w' => ∃ b1 : Option Addr, ∃ c1 : Nat, v = .slice b1 sp.length c1 ∧ OwnS w' w.heap.size 2 1 b1 sp.length c1 sp ∧ Ext w w') := by
  cases spA with
  | some p =>
    have := c_z_CloneS p spN spC sp w spR hl
    simpa only [F_z_CloneS, List.nil_append] using this
  | none =>
    obtain ⟨rfl, rfl⟩ := spR.2.2.2.1 rfl
    have h0 : sp = [] := by have := spR.1; simpa using this
    subst h0
    refine enter (args := [.slice none 0 0]) Try.func178 rfl rfl ?_
    rw [Try.ntmps178]; intro a hE
    have hE := hE.sub (L' := [(0, .slice none 0 0)]) ⟨rfl, trivial⟩
    refine c_seq ?_
    refine c_reg ?_
    refine q_step (v := .slice none 0 0) hE (y_assign rfl) rfl rfl rfl ?_; intro a1 hE1
    refine c_nil ?_
    refine p_tn ?_
    refine c_seq ?_
    refine c_seq ?_
    refine c_reg ?_
    refine q_step (v := .slice none 0 0) hE1 (y_move rfl) rfl rfl rfl ?_; intro a2 hE2
    refine q_step (v := .bool true) hE2 (y_eqnil0 (e := 2) (by kernel_rfl) rfl rfl) rfl rfl rfl ?_; intro a3 hE3
    refine c_nil ?_
    refine p_tn ?_
    refine c_true hE3 rfl ?_
    refine c_seq ?_
    refine c_reg ?_
    refine q_step (v := .slice none 0 0) hE3 (y_assign rfl) rfl rfl rfl ?_; intro a4 hE4
    refine c_nil ?_
    refine p_tn ?_
    refine wp_ret ?_
    refine p_tr ?_
    refine c_ret1 hE4 rfl rfl ?_
    exact ⟨none, 0, rfl, OwnS.nilS _ _ _ _, Ext.refl w⟩
def F_transitive_L2b (ap : List Int) (t10 : Int) (rec : Int → (List Int) → Int × (List Int)) (t15L2 : Int) (out3L2 : List Int) : Int × (List Int) :=
  bif (decide (t15L2 < ((ap).length : Int))) then (rec (t15L2 + 1) (bif (F_has (gI out3L2 t15L2) t10) then sI out3L2 t15L2 (orI (gI out3L2 t15L2) (gI out3L2 t10)) else out3L2)) else (t15L2, out3L2)
def F_transitive_L2 (ap : List Int) (t10 : Int) : Nat → Int → (List Int) → Int × (List Int)
  | 0, t15L2, out3L2 => (t15L2, out3L2)
  | r + 1, t15L2, out3L2 => F_transitive_L2b ap t10 (F_transitive_L2 ap t10 r) t15L2 out3L2
def F_transitive_L1b (ap : List Int) (rec : Int → (List Int) → Int × (List Int)) (t10 : Int) (out3 : List Int) : Int × (List Int) :=
  bif (decide (t10 < ((ap).length : Int))) then (rec (t10 + 1) ((F_transitive_L2 ap t10 (Int.toNat (((ap).length : Int) - 0) + 1) 0 out3).2)) else (t10, out3)
def F_transitive_L1 (ap : List Int) : Nat → Int → (List Int) → Int × (List Int)
  | 0, t10, out3 => (t10, out3)
  | r + 1, t10, out3 => F_transitive_L1b ap (F_transitive_L1 ap r) t10 out3
def F_transitive (ap : List Int) : List Int :=
  (F_transitive_L1 ap (Int.toNat (((ap).length : Int) - 0) + 1) 0 ap).2
theorem cf_transitive (args : Array Value) (w : World) : (callFunc 214 args).run Try.prog w = .ok (.enter 214 args) w := by kernel_rfl
set_option maxRecDepth 100000 in
theorem c_transitive (apA : Option Addr) (apN apC : Nat) (ap : List Int) (w : World) (apR : RdS w 1 apA apN apC ap) (hl : ap.length ≤ 30) :
    Calls Try.prog 214 #[.slice apA apN apC] w (Ret fun v w' => ∃ b1 : Option Addr, ∃ c1 : Nat, v = .slice b1 (F_transitive ap).length c1 ∧ OwnS w' w.heap.size 2 1 b1 (F_transitive ap).length c1 (F_transitive ap) ∧ Ext w w') := by
  obtain rfl : apN = ap.length := apR.len1.symm
  have apLe := apR.le
  have hS := St.nil w
  have hS1 := St.rd0 hS rfl apR; clear hS
  refine enter (args := [.slice apA ap.length apC]) Try.func214 rfl rfl ?_
  rw [Try.ntmps214]; intro a hE
  have hE := hE.sub (L' := [(0, .slice apA ap.length apC)]) ⟨rfl, trivial⟩
  refine c_seq ?_
  refine c_reg ?_
  refine q_step (v := .slice none 0 0) hE (y_assign rfl) rfl rfl rfl ?_; intro a2 hE3; clear hE
  refine c_nil ?_
  have hE4 := hE3.sub (L' := [(0, .slice apA ap.length apC)]) ⟨rfl, trivial⟩; clear hE3
  refine p_tn ?_
  refine c_seq ?_
  refine c_reg ?_
  refine q_step (v := .slice apA ap.length apC) hE4 (y_move rfl) rfl rfl rfl ?_; intro a5 hE6; clear hE4
  refine l_step hE6 rfl (l_call (f := 178) (argv := [.slice apA ap.length apC]) hE6 (fun _ => cf_z_CloneS _ _) rfl rfl (c_z_Clone apA ap.length apC ap w (St.rdR (i := 0) hS1 rfl) (by omega)) ?_)
  rintro _ w8 ⟨b13, c14, rfl, ho15, he12⟩ a9 hE10; clear hE6
  have hS11 := St.own hS1 he12 ho15; clear hS1
  refine q_step (v := .slice b13 ((ap).length) c14) hE10 (y_assign rfl) rfl rfl rfl ?_; intro a16 hE17; clear hE10
  refine c_nil ?_
  have hE18 := hE17.sub (L' := [(3, .slice b13 ((ap).length) c14)]) ⟨rfl, trivial⟩; clear hE17
  refine p_tn ?_
  refine c_seq ?_
  refine c_seq ?_
  refine c_reg ?_
  refine q_step (v := .slice b13 ((ap).length) c14) hE18 (y_move rfl) rfl rfl rfl ?_; intro a19 hE20; clear hE18
  refine q_step (v := .int .i64 ((ap).length : Int)) hE20 (y_len (e := 2) (by kernel_rfl) rfl) rfl rfl rfl ?_; intro a21 hE22; clear hE20
  refine q_step (v := .int .i64 0) hE22 (y_move rfl) rfl rfl rfl ?_; intro a23 hE24; clear hE22
  refine c_nil ?_
  have hE25 := hE24.sub (L' := [(3, .slice b13 ((ap).length) c14), (9, .int .i64 ((ap).length : Int)), (10, .int .i64 0)]) ⟨rfl, rfl, rfl, trivial⟩; clear hE24
  refine p_tn ?_
  refine c_cut1 (fun a' w' => (0 ≤ ((F_transitive_L1 ap (Int.toNat (((ap).length : Int) - 0) + 1) 0 ap).1)) ∧ (((F_transitive_L1 ap (Int.toNat (((ap).length : Int) - 0) + 1) 0 ap).1) ≤ ((ap).length : Int)) ∧ E a' 37 [(3, .slice b13 ((ap).length) c14), (9, .int .i64 ((ap).length : Int)), (10, .int .i64 ((F_transitive_L1 ap (Int.toNat (((ap).length : Int) - 0) + 1) 0 ap).1))] ∧ St w w' [.own 2 1 b13 ((ap).length) c14 ((F_transitive_L1 ap (Int.toNat (((ap).length : Int) - 0) + 1) 0 ap).2), .rd 1 apA ap.length apC ap]) ?_ ?_
  ·
   refine wp_block ?_
   refine c_loop (fun r a' w' => ∃ t10 : Int, ∃ out3 : List Int, F_transitive_L1 ap r t10 out3 = F_transitive_L1 ap (Int.toNat (((ap).length : Int) - 0) + 1) 0 ap ∧ Int.toNat (((ap).length : Int) - t10) < r ∧ (0 ≤ t10) ∧ (t10 ≤ ((ap).length : Int)) ∧ E a' 37 [(3, .slice b13 ((ap).length) c14), (9, .int .i64 ((ap).length : Int)), (10, .int .i64 t10)] ∧ St w w' [.own 2 1 b13 ((ap).length) c14 out3, .rd 1 apA ap.length apC ap]) (r := (Int.toNat (((ap).length : Int) - 0) + 1)) ?_ ?_
   · exact ⟨0, ap, rfl, Nat.lt_succ_self _, (by first | omega | (simp only [sS_len, sL_len]; omega) | (simp only [List.length_replicate, sI_len]; omega) | (simp only [List.length_append, List.length_cons, List.length_nil, sI_len, cond_true, cond_false]; omega) | (simp only [List.length_append, List.length_cons, List.length_nil, sI_len, cond_eq_ite, apply_ite List.length]; split <;> simp only [List.length_append, List.length_cons, List.length_nil, sI_len] <;> omega) | grind), (by first | omega | (simp only [sS_len, sL_len]; omega) | (simp only [List.length_replicate, sI_len]; omega) | (simp only [List.length_append, List.length_cons, List.length_nil, sI_len, cond_true, cond_false]; omega) | (simp only [List.length_append, List.length_cons, List.length_nil, sI_len, cond_eq_ite, apply_ite List.length]; split <;> simp only [List.length_append, List.length_cons, List.length_nil, sI_len] <;> omega) | grind), (hE25.sub (L' := [(3, .slice b13 ((ap).length) c14), (9, .int .i64 ((ap).length : Int)), (10, .int .i64 0)]) ⟨rfl, rfl, rfl, trivial⟩), (St.pick (Γ' := [.own 2 1 b13 ((ap).length) c14 ap, .rd 1 apA ap.length apC ap]) hS11 [0, 1] (by decide) rfl)⟩
   ·
    clear hE25 hS11
    rintro r35 a27 w28 ⟨t10, out3, hT31, hr32, hi33, hi34, hE29, hS30⟩
    obtain ⟨r35, rfl⟩ : ∃ r', r35 = r' + 1 := ⟨r35 - 1, by omega⟩
    refine c_seq ?_
    refine c_reg ?_
    refine q_step (v := .bool (decide (t10 < ((ap).length : Int)))) hE29 (y_lss rfl rfl) rfl rfl rfl ?_; intro a36 hE37; clear hE29
    refine c_nil ?_
    have hE38 := hE37.sub (L' := [(3, .slice b13 ((ap).length) c14), (9, .int .i64 ((ap).length : Int)), (10, .int .i64 t10), (11, .bool (decide (t10 < ((ap).length : Int))))]) ⟨rfl, rfl, rfl, rfl, trivial⟩; clear hE37
    refine p_tn ?_
    refine c_seq ?_
    refine c_cond hE38 rfl (fun ht39 => ?_) (fun ht39 => ?_)
    ·
     have hp40 := of_decide_eq_true ht39
     have hE41 := hE38; rw [ht39] at hE41; clear hE38
     refine wp_skip ?_
     refine p_tn ?_
     refine c_seq ?_
     refine wp_block ?_
     refine c_seq ?_
     refine c_reg ?_
     refine q_step (v := .int .i64 t10) hE41 (y_move rfl) rfl rfl rfl ?_; intro a42 hE43; clear hE41
     refine q_step (v := .int .i64 t10) hE43 (y_assign rfl) rfl rfl rfl ?_; intro a44 hE45; clear hE43
     refine c_nil ?_
     have hE46 := hE45.sub (L' := [(3, .slice b13 ((ap).length) c14), (4, .int .i64 t10), (9, .int .i64 ((ap).length : Int)), (10, .int .i64 t10)]) ⟨rfl, rfl, rfl, rfl, trivial⟩; clear hE45
     refine p_tn ?_
     refine c_seq ?_
     refine c_reg ?_
     refine q_step (v := .slice b13 ((ap).length) c14) hE46 (y_move rfl) rfl rfl rfl ?_; intro a47 hE48; clear hE46
     refine q_step (v := .int .i64 ((ap).length : Int)) hE48 (y_len (e := 2) (by kernel_rfl) rfl) rfl rfl rfl ?_; intro a49 hE50; clear hE48
     refine q_step (v := .int .i64 0) hE50 (y_move rfl) rfl rfl rfl ?_; intro a51 hE52; clear hE50
     refine c_nil ?_
     have hE53 := hE52.sub (L' := [(3, .slice b13 ((ap).length) c14), (4, .int .i64 t10), (9, .int .i64 ((ap).length : Int)), (10, .int .i64 t10), (14, .int .i64 ((ap).length : Int)), (15, .int .i64 0)]) ⟨rfl, rfl, rfl, rfl, rfl, rfl, trivial⟩; clear hE52
     refine p_tn ?_
     refine c_cut1 (fun a' w' => (0 ≤ ((F_transitive_L2 ap t10 (Int.toNat (((ap).length : Int) - 0) + 1) 0 out3).1)) ∧ (((F_transitive_L2 ap t10 (Int.toNat (((ap).length : Int) - 0) + 1) 0 out3).1) ≤ ((ap).length : Int)) ∧ E a' 37 [(3, .slice b13 ((ap).length) c14), (4, .int .i64 t10), (9, .int .i64 ((ap).length : Int)), (10, .int .i64 t10), (14, .int .i64 ((ap).length : Int)), (15, .int .i64 ((F_transitive_L2 ap t10 (Int.toNat (((ap).length : Int) - 0) + 1) 0 out3).1))] ∧ St w w' [.own 2 1 b13 ((ap).length) c14 ((F_transitive_L2 ap t10 (Int.toNat (((ap).length : Int) - 0) + 1) 0 out3).2), .rd 1 apA ap.length apC ap]) ?_ ?_
     ·
      refine wp_block ?_
      refine c_loop (fun r a' w' => ∃ t15L2 : Int, ∃ out3L2 : List Int, F_transitive_L2 ap t10 r t15L2 out3L2 = F_transitive_L2 ap t10 (Int.toNat (((ap).length : Int) - 0) + 1) 0 out3 ∧ Int.toNat (((ap).length : Int) - t15L2) < r ∧ (0 ≤ t15L2) ∧ (t15L2 ≤ ((ap).length : Int)) ∧ E a' 37 [(3, .slice b13 ((ap).length) c14), (4, .int .i64 t10), (9, .int .i64 ((ap).length : Int)), (10, .int .i64 t10), (14, .int .i64 ((ap).length : Int)), (15, .int .i64 t15L2)] ∧ St w w' [.own 2 1 b13 ((ap).length) c14 out3L2, .rd 1 apA ap.length apC ap]) (r := (Int.toNat (((ap).length : Int) - 0) + 1)) ?_ ?_
      · exact ⟨0, out3, rfl, Nat.lt_succ_self _, (by first | omega | (simp only [sS_len, sL_len]; omega) | (simp only [List.length_replicate, sI_len]; omega) | (simp only [List.length_append, List.length_cons, List.length_nil, sI_len, cond_true, cond_false]; omega) | (simp only [List.length_append, List.length_cons, List.length_nil, sI_len, cond_eq_ite, apply_ite List.length]; split <;> simp only [List.length_append, List.length_cons, List.length_nil, sI_len] <;> omega) | grind), (by first | omega | (simp only [sS_len, sL_len]; omega) | (simp only [List.length_replicate, sI_len]; omega) | (simp only [List.length_append, List.length_cons, List.length_nil, sI_len, cond_true, cond_false]; omega) | (simp only [List.length_append, List.length_cons, List.length_nil, sI_len, cond_eq_ite, apply_ite List.length]; split <;> simp only [List.length_append, List.length_cons, List.length_nil, sI_len] <;> omega) | grind), (hE53.sub (L' := [(3, .slice b13 ((ap).length) c14), (4, .int .i64 t10), (9, .int .i64 ((ap).length : Int)), (10, .int .i64 t10), (14, .int .i64 ((ap).length : Int)), (15, .int .i64 0)]) ⟨rfl, rfl, rfl, rfl, rfl, rfl, trivial⟩), (St.pick (Γ' := [.own 2 1 b13 ((ap).length) c14 out3, .rd 1 apA ap.length apC ap]) hS30 [0, 1] (by decide) rfl)⟩
      ·
       clear hE53 hS30
       rintro r63 a55 w56 ⟨t15L2, out3L2, hT59, hr60, hi61, hi62, hE57, hS58⟩
       obtain ⟨r63, rfl⟩ : ∃ r', r63 = r' + 1 := ⟨r63 - 1, by omega⟩
       refine c_seq ?_
       refine c_reg ?_
       refine q_step (v := .bool (decide (t15L2 < ((ap).length : Int)))) hE57 (y_lss rfl rfl) rfl rfl rfl ?_; intro a64 hE65; clear hE57
       refine c_nil ?_
       have hE66 := hE65.sub (L' := [(3, .slice b13 ((ap).length) c14), (4, .int .i64 t10), (9, .int .i64 ((ap).length : Int)), (10, .int .i64 t10), (14, .int .i64 ((ap).length : Int)), (15, .int .i64 t15L2), (16, .bool (decide (t15L2 < ((ap).length : Int))))]) ⟨rfl, rfl, rfl, rfl, rfl, rfl, rfl, trivial⟩; clear hE65
       refine p_tn ?_
       refine c_seq ?_
       refine c_cond hE66 rfl (fun ht67 => ?_) (fun ht67 => ?_)
       ·
        have hp68 := of_decide_eq_true ht67
        have hE69 := hE66; rw [ht67] at hE69; clear hE66
        refine wp_skip ?_
        refine p_tn ?_
        refine c_cut (fun a' w' => E a' 37 [(3, .slice b13 ((ap).length) c14), (4, .int .i64 t10), (9, .int .i64 ((ap).length : Int)), (10, .int .i64 t10), (14, .int .i64 ((ap).length : Int)), (15, .int .i64 t15L2)] ∧ St w w' [.own 2 1 b13 ((ap).length) c14 (bif (F_has (gI out3L2 t15L2) t10) then sI out3L2 t15L2 (orI (gI out3L2 t15L2) (gI out3L2 t10)) else out3L2), .rd 1 apA ap.length apC ap]) ?_ ?_
        ·
         refine wp_block ?_
         refine c_seq ?_
         refine c_reg ?_
         refine q_step (v := .int .i64 t15L2) hE69 (y_move rfl) rfl rfl rfl ?_; intro a70 hE71; clear hE69
         refine q_step (v := .int .i64 t15L2) hE71 (y_assign rfl) rfl rfl rfl ?_; intro a72 hE73; clear hE71
         refine c_nil ?_
         have hE74 := hE73.sub (L' := [(3, .slice b13 ((ap).length) c14), (4, .int .i64 t10), (5, .int .i64 t15L2), (9, .int .i64 ((ap).length : Int)), (10, .int .i64 t10), (14, .int .i64 ((ap).length : Int)), (15, .int .i64 t15L2)]) ⟨rfl, rfl, rfl, rfl, rfl, rfl, rfl, trivial⟩; clear hE73
         refine p_tn ?_
         refine c_seq ?_
         refine c_reg ?_
         refine q_step (v := .slice b13 ((ap).length) c14) hE74 (y_move rfl) rfl rfl rfl ?_; intro a75 hE76; clear hE74
         refine q_step (v := .int .i64 t15L2) hE76 (y_move rfl) rfl rfl rfl ?_; intro a77 hE78; clear hE76
         refine q_step (v := .pointer (some (adr b13 (Int.toNat t15L2)))) hE78 (y_idx (by kernel_rfl) (fun _ => by kernel_rfl) rfl rfl (RdS.isS (m := t15L2) (St.rdO (i := 0) hS58 rfl) (by omega) (by omega)) (by omega) (by omega) (Nat.mul_one _).symm) rfl rfl rfl ?_; intro a79 hE80; clear hE78
         refine q_step (v := .int .i64 (gI out3L2 t15L2)) hE80 (y_load (fun _ => by kernel_rfl) rfl (RdS.elt (St.rdO (i := 0) hS58 rfl) (by omega) (by omega))) rfl rfl rfl ?_; intro a81 hE82; clear hE80
         refine q_step (v := .int .i64 t10) hE82 (y_move rfl) rfl rfl rfl ?_; intro a83 hE84; clear hE82
         refine l_step hE84 rfl (l_call (f := 177) (argv := [.int .i64 (gI out3L2 t15L2), .int .i64 t10]) hE84 (fun _ => cf_has _ _) rfl rfl (c_has (gI out3L2 t15L2) t10 w56 (by omega)) ?_)
         rintro _ _ ⟨rfl, rfl⟩ a87 hE88; clear hE84
         refine c_nil ?_
         have hE91 := hE88.sub (L' := [(3, .slice b13 ((ap).length) c14), (4, .int .i64 t10), (5, .int .i64 t15L2), (9, .int .i64 ((ap).length : Int)), (10, .int .i64 t10), (14, .int .i64 ((ap).length : Int)), (15, .int .i64 t15L2), (23, .bool (F_has (gI out3L2 t15L2) t10))]) ⟨rfl, rfl, rfl, rfl, rfl, rfl, rfl, rfl, trivial⟩; clear hE88
         refine p_tn ?_
         refine c_cond hE91 rfl (fun ht92 => ?_) (fun ht92 => ?_)
         ·
          have hE93 := hE91; rw [ht92] at hE93; clear hE91
          refine d_start (fun w w' => (fun w' => w'.cell? (adr b13 (Int.toNat t15L2)) = some (.int .i64 (gI out3L2 t15L2)) ∧ w'.cell? (adr b13 (Int.toNat t10)) = some (.int .i64 (gI out3L2 t10)) ∧ True) w → (fun w' => w'.cell? (adr b13 (Int.toNat t15L2)) = some (.int .i64 (gI out3L2 t15L2)) ∧ w'.cell? (adr b13 (Int.toNat t10)) = some (.int .i64 (gI out3L2 t10)) ∧ True) w') [3, 7] 11 (by kernel_rfl) rfl ?_
          intro w94 he95; have hS96 := St.go hS58 he95; clear hS58
          refine d_pure (fun _ h => h) (v := .slice b13 ((ap).length) c14) 0 rfl hE93 (y_move rfl) rfl (by kernel_rfl) (by kernel_rfl) (by kernel_rfl) rfl rfl (fun _ _ _ h => h) ?_; intro a97 hE98; clear hE93
          refine d_pure (fun _ h => h) (v := .int .i64 t15L2) 1 rfl hE98 (y_move rfl) rfl (by kernel_rfl) (by kernel_rfl) (by kernel_rfl) rfl rfl (fun _ _ _ h => h) ?_; intro a99 hE100; clear hE98
          refine d_pure (fun _ h => h) (v := .pointer (some (adr b13 (Int.toNat t15L2)))) 2 rfl hE100 (y_idx (by kernel_rfl) (fun _ => by kernel_rfl) rfl rfl (RdS.isS (m := t15L2) (St.rdO (i := 0) hS96 rfl) (by omega) (by omega)) (by omega) (by omega) (Nat.mul_one _).symm) rfl (by kernel_rfl) (by kernel_rfl) (by kernel_rfl) rfl rfl (fun _ _ _ h => h) ?_; intro a101 hE102; clear hE100
          refine d_take (fun _ h => h) (fun _ _ h k => h k) (v := .int .i64 (gI out3L2 t15L2)) 3 rfl hE102 (S := fun w' => w'.cell? (adr b13 (Int.toNat t15L2)) = some (.int .i64 (gI out3L2 t15L2)) ∧ w'.cell? (adr b13 (Int.toNat t10)) = some (.int .i64 (gI out3L2 t10)) ∧ True) ⟨(RdS.elt (St.rdO (i := 0) hS96 rfl) (by omega) (by omega) _ (Ext.refl _)), (RdS.elt (St.rdO (i := 0) hS96 rfl) (by omega) (by omega) _ (Ext.refl _)), trivial⟩ (y_load (fun _ => by kernel_rfl) rfl (fun _ h => h.1)) rfl rfl (by kernel_rfl) (by kernel_rfl) (by kernel_rfl) (by kernel_rfl) rfl rfl (fun _ _ _ h => h) ?_; intro a103 hE104; clear hE102
          refine d_pure (fun _ h => h) (v := .slice b13 ((ap).length) c14) 4 rfl hE104 (y_move rfl) rfl (by kernel_rfl) (by kernel_rfl) (by kernel_rfl) rfl rfl (fun _ _ _ h => h) ?_; intro a105 hE106; clear hE104
          refine d_pure (fun _ h => h) (v := .int .i64 t10) 5 rfl hE106 (y_move rfl) rfl (by kernel_rfl) (by kernel_rfl) (by kernel_rfl) rfl rfl (fun _ _ _ h => h) ?_; intro a107 hE108; clear hE106
          refine d_pure (fun _ h => h) (v := .pointer (some (adr b13 (Int.toNat t10)))) 6 rfl hE108 (y_idx (by kernel_rfl) (fun _ => by kernel_rfl) rfl rfl (RdS.isS (m := t10) (St.rdO (i := 0) hS96 rfl) (by omega) (by omega)) (by omega) (by omega) (Nat.mul_one _).symm) rfl (by kernel_rfl) (by kernel_rfl) (by kernel_rfl) rfl rfl (fun _ _ _ h => h) ?_; intro a109 hE110; clear hE108
          refine d_take (fun _ h => h) (fun _ _ h k => h k) (v := .int .i64 (gI out3L2 t10)) 7 rfl hE110 (S := fun w' => w'.cell? (adr b13 (Int.toNat t15L2)) = some (.int .i64 (gI out3L2 t15L2)) ∧ w'.cell? (adr b13 (Int.toNat t10)) = some (.int .i64 (gI out3L2 t10)) ∧ True) ⟨(RdS.elt (St.rdO (i := 0) hS96 rfl) (by omega) (by omega) _ (Ext.refl _)), (RdS.elt (St.rdO (i := 0) hS96 rfl) (by omega) (by omega) _ (Ext.refl _)), trivial⟩ (y_load (fun _ => by kernel_rfl) rfl (fun _ h => h.2.1)) rfl rfl (by kernel_rfl) (by kernel_rfl) (by kernel_rfl) (by kernel_rfl) rfl rfl (fun _ _ _ h => h) ?_; intro a111 hE112; clear hE110
          refine d_pure (fun _ h => h) (v := .int .i64 (orI (gI out3L2 t15L2) (gI out3L2 t10))) 8 rfl hE112 (y_or rfl rfl) rfl (by kernel_rfl) (by kernel_rfl) (by kernel_rfl) rfl rfl (fun _ _ _ h => h) ?_; intro a113 hE114; clear hE112
          refine d_pure (fun _ h => h) (v := .pointer (some (adr b13 (Int.toNat t15L2)))) 9 rfl hE114 (y_idx (by kernel_rfl) (fun _ => by kernel_rfl) rfl rfl (RdS.isS (m := t15L2) (St.rdO (i := 0) hS96 rfl) (by omega) (by omega)) (by omega) (by omega) (Nat.mul_one _).symm) rfl (by kernel_rfl) (by kernel_rfl) (by kernel_rfl) rfl rfl (fun _ _ _ h => h) ?_; intro a115 hE116; clear hE114
          refine d_only 10 (by kernel_rfl) rfl hE116 rfl (l_store (k := 0) hS96 hE116 (fun _ => by kernel_rfl) rfl rfl rfl (by omega) (by omega) ?_)
          intro w118 hS121 a119 hE120; clear hS96 hE116
          refine ⟨fun h => Bool.noConfusion (h.symm.trans (show exm _ _ _ = true by kernel_rfl)), ?_⟩
          refine d_done (by kernel_rfl) ?_
          have hE123 := hE120.sub (L' := [(3, .slice b13 ((ap).length) c14), (4, .int .i64 t10), (9, .int .i64 ((ap).length : Int)), (10, .int .i64 t10), (14, .int .i64 ((ap).length : Int)), (15, .int .i64 t15L2)]) ⟨rfl, rfl, rfl, rfl, rfl, rfl, trivial⟩; clear hE120
          refine p_bn ?_
          refine p_tn ?_
          have hE124 := hE123.sub (L' := [(3, .slice b13 ((ap).length) c14), (4, .int .i64 t10), (9, .int .i64 ((ap).length : Int)), (10, .int .i64 t10), (14, .int .i64 ((ap).length : Int)), (15, .int .i64 t15L2)]) ⟨rfl, rfl, rfl, rfl, rfl, rfl, trivial⟩
          have hS125 := (St.pick (Γ' := [.own 2 1 b13 ((ap).length) c14 (sI out3L2 t15L2 (orI (gI out3L2 t15L2) (gI out3L2 t10))), .rd 1 apA ap.length apC ap]) hS121 [0, 1] (by decide) rfl)
          exact ⟨hE124, (by rw [ht92]; exact hS125)⟩
         ·
          have hE126 := hE91; rw [ht92] at hE126; clear hE91
          refine wp_skip ?_
          refine p_bn ?_
          refine p_tn ?_
          have hE127 := hE126.sub (L' := [(3, .slice b13 ((ap).length) c14), (4, .int .i64 t10), (9, .int .i64 ((ap).length : Int)), (10, .int .i64 t10), (14, .int .i64 ((ap).length : Int)), (15, .int .i64 t15L2)]) ⟨rfl, rfl, rfl, rfl, rfl, rfl, trivial⟩
          have hS128 := (St.pick (Γ' := [.own 2 1 b13 ((ap).length) c14 out3L2, .rd 1 apA ap.length apC ap]) hS58 [0, 1] (by decide) rfl)
          exact ⟨hE127, (by rw [ht92]; exact hS128)⟩
        ·
         rintro a129 w130 ⟨hE131, hS132⟩; clear hE69 hS58
         refine c_reg ?_
         refine q_step (v := .int .i64 (t15L2 + 1)) hE131 (y_add rfl rfl ⟨(by omega), (by omega)⟩) rfl rfl rfl ?_; intro a134 hE135; clear hE131
         refine q_step (v := .int .i64 (t15L2 + 1)) hE135 (y_move rfl) rfl rfl rfl ?_; intro a136 hE137; clear hE135
         refine c_nil ?_
         have hE138 := hE137.sub (L' := [(3, .slice b13 ((ap).length) c14), (4, .int .i64 t10), (9, .int .i64 ((ap).length : Int)), (10, .int .i64 t10), (14, .int .i64 ((ap).length : Int)), (15, .int .i64 (t15L2 + 1))]) ⟨rfl, rfl, rfl, rfl, rfl, rfl, trivial⟩; clear hE137
         have hl139 := (St.rdO (i := 0) hS132 rfl).len1
         refine p_tn ⟨r63, Nat.lt_succ_self _, t15L2 + 1, bif (F_has (gI out3L2 t15L2) t10) then sI out3L2 t15L2 (orI (gI out3L2 t15L2) (gI out3L2 t10)) else out3L2, (hT59.symm.trans (show F_transitive_L2b ap t10 (F_transitive_L2 ap t10 r63) t15L2 out3L2 = F_transitive_L2 ap t10 r63 (t15L2 + 1) (bif (F_has (gI out3L2 t15L2) t10) then sI out3L2 t15L2 (orI (gI out3L2 t15L2) (gI out3L2 t10)) else out3L2) by unfold F_transitive_L2b; rw [ht67]; first | done | rfl)).symm, (by omega), (by first | omega | (simp only [sS_len, sL_len]; omega) | (simp only [List.length_replicate, sI_len]; omega) | (simp only [List.length_append, List.length_cons, List.length_nil, sI_len, cond_true, cond_false]; omega) | (simp only [List.length_append, List.length_cons, List.length_nil, sI_len, cond_eq_ite, apply_ite List.length]; split <;> simp only [List.length_append, List.length_cons, List.length_nil, sI_len] <;> omega) | grind), (by first | omega | (simp only [sS_len, sL_len]; omega) | (simp only [List.length_replicate, sI_len]; omega) | (simp only [List.length_append, List.length_cons, List.length_nil, sI_len, cond_true, cond_false]; omega) | (simp only [List.length_append, List.length_cons, List.length_nil, sI_len, cond_eq_ite, apply_ite List.length]; split <;> simp only [List.length_append, List.length_cons, List.length_nil, sI_len] <;> omega) | grind), (hE138.sub (L' := [(3, .slice b13 ((ap).length) c14), (4, .int .i64 t10), (9, .int .i64 ((ap).length : Int)), (10, .int .i64 t10), (14, .int .i64 ((ap).length : Int)), (15, .int .i64 (t15L2 + 1))]) ⟨rfl, rfl, rfl, rfl, rfl, rfl, trivial⟩), (St.pick (Γ' := [.own 2 1 b13 ((ap).length) c14 (bif (F_has (gI out3L2 t15L2) t10) then sI out3L2 t15L2 (orI (gI out3L2 t15L2) (gI out3L2 t10)) else out3L2), .rd 1 apA ap.length apC ap]) hS132 [0, 1] (by decide) rfl)⟩
       ·
        have hp140 := of_decide_eq_false ht67
        have hE141 := hE66; rw [ht67] at hE141; clear hE66
        refine wp_exit ?_
        refine p_te ?_
        have hX142 : F_transitive_L2 ap t10 (Int.toNat (((ap).length : Int) - 0) + 1) 0 out3 = (t15L2, out3L2) := hT59.symm.trans (show F_transitive_L2b ap t10 (F_transitive_L2 ap t10 r63) t15L2 out3L2 = (t15L2, out3L2) by unfold F_transitive_L2b; rw [ht67]; first | done | rfl)
        refine p_te (p_be (p_tn ?_))
        exact ⟨(by rw [hX142]; exact (show 0 ≤ t15L2 from (by first | omega | (simp only [sS_len, sL_len]; omega) | (simp only [List.length_replicate, sI_len]; omega) | (simp only [List.length_append, List.length_cons, List.length_nil, sI_len, cond_true, cond_false]; omega) | (simp only [List.length_append, List.length_cons, List.length_nil, sI_len, cond_eq_ite, apply_ite List.length]; split <;> simp only [List.length_append, List.length_cons, List.length_nil, sI_len] <;> omega) | grind))), (by rw [hX142]; exact (show t15L2 ≤ ((ap).length : Int) from (by first | omega | (simp only [sS_len, sL_len]; omega) | (simp only [List.length_replicate, sI_len]; omega) | (simp only [List.length_append, List.length_cons, List.length_nil, sI_len, cond_true, cond_false]; omega) | (simp only [List.length_append, List.length_cons, List.length_nil, sI_len, cond_eq_ite, apply_ite List.length]; split <;> simp only [List.length_append, List.length_cons, List.length_nil, sI_len] <;> omega) | grind))), (by rw [hX142]; exact (hE141.sub (L' := [(3, .slice b13 ((ap).length) c14), (4, .int .i64 t10), (9, .int .i64 ((ap).length : Int)), (10, .int .i64 t10), (14, .int .i64 ((ap).length : Int)), (15, .int .i64 t15L2)]) ⟨rfl, rfl, rfl, rfl, rfl, rfl, trivial⟩)), (by rw [hX142]; exact (St.pick (Γ' := [.own 2 1 b13 ((ap).length) c14 out3L2, .rd 1 apA ap.length apC ap]) hS58 [0, 1] (by decide) rfl))⟩
     ·
      rintro a143 w144 ⟨hi148, hi149, hE145, hS146⟩; clear hE53 hS30
      refine p_bn ?_
      refine p_tn ?_
      refine c_reg ?_
      refine q_step (v := .int .i64 (t10 + 1)) hE145 (y_add rfl rfl ⟨(by omega), (by omega)⟩) rfl rfl rfl ?_; intro a150 hE151; clear hE145
      refine q_step (v := .int .i64 (t10 + 1)) hE151 (y_move rfl) rfl rfl rfl ?_; intro a152 hE153; clear hE151
      refine c_nil ?_
      have hE154 := hE153.sub (L' := [(3, .slice b13 ((ap).length) c14), (9, .int .i64 ((ap).length : Int)), (10, .int .i64 (t10 + 1))]) ⟨rfl, rfl, rfl, trivial⟩; clear hE153
      refine p_tn ⟨r35, Nat.lt_succ_self _, t10 + 1, (F_transitive_L2 ap t10 (Int.toNat (((ap).length : Int) - 0) + 1) 0 out3).2, (hT31.symm.trans (show F_transitive_L1b ap (F_transitive_L1 ap r35) t10 out3 = F_transitive_L1 ap r35 (t10 + 1) ((F_transitive_L2 ap t10 (Int.toNat (((ap).length : Int) - 0) + 1) 0 out3).2) by unfold F_transitive_L1b; rw [ht39]; first | done | rfl)).symm, (by omega), (by first | omega | (simp only [sS_len, sL_len]; omega) | (simp only [List.length_replicate, sI_len]; omega) | (simp only [List.length_append, List.length_cons, List.length_nil, sI_len, cond_true, cond_false]; omega) | (simp only [List.length_append, List.length_cons, List.length_nil, sI_len, cond_eq_ite, apply_ite List.length]; split <;> simp only [List.length_append, List.length_cons, List.length_nil, sI_len] <;> omega) | grind), (by first | omega | (simp only [sS_len, sL_len]; omega) | (simp only [List.length_replicate, sI_len]; omega) | (simp only [List.length_append, List.length_cons, List.length_nil, sI_len, cond_true, cond_false]; omega) | (simp only [List.length_append, List.length_cons, List.length_nil, sI_len, cond_eq_ite, apply_ite List.length]; split <;> simp only [List.length_append, List.length_cons, List.length_nil, sI_len] <;> omega) | grind), (hE154.sub (L' := [(3, .slice b13 ((ap).length) c14), (9, .int .i64 ((ap).length : Int)), (10, .int .i64 (t10 + 1))]) ⟨rfl, rfl, rfl, trivial⟩), (St.pick (Γ' := [.own 2 1 b13 ((ap).length) c14 ((F_transitive_L2 ap t10 (Int.toNat (((ap).length : Int) - 0) + 1) 0 out3).2), .rd 1 apA ap.length apC ap]) hS146 [0, 1] (by decide) rfl)⟩
    ·
     have hp155 := of_decide_eq_false ht39
     have hE156 := hE38; rw [ht39] at hE156; clear hE38
     refine wp_exit ?_
     refine p_te ?_
     have hX157 : F_transitive_L1 ap (Int.toNat (((ap).length : Int) - 0) + 1) 0 ap = (t10, out3) := hT31.symm.trans (show F_transitive_L1b ap (F_transitive_L1 ap r35) t10 out3 = (t10, out3) by unfold F_transitive_L1b; rw [ht39]; first | done | rfl)
     refine p_te (p_be (p_tn ?_))
     exact ⟨(by rw [hX157]; exact (show 0 ≤ t10 from (by first | omega | (simp only [sS_len, sL_len]; omega) | (simp only [List.length_replicate, sI_len]; omega) | (simp only [List.length_append, List.length_cons, List.length_nil, sI_len, cond_true, cond_false]; omega) | (simp only [List.length_append, List.length_cons, List.length_nil, sI_len, cond_eq_ite, apply_ite List.length]; split <;> simp only [List.length_append, List.length_cons, List.length_nil, sI_len] <;> omega) | grind))), (by rw [hX157]; exact (show t10 ≤ ((ap).length : Int) from (by first | omega | (simp only [sS_len, sL_len]; omega) | (simp only [List.length_replicate, sI_len]; omega) | (simp only [List.length_append, List.length_cons, List.length_nil, sI_len, cond_true, cond_false]; omega) | (simp only [List.length_append, List.length_cons, List.length_nil, sI_len, cond_eq_ite, apply_ite List.length]; split <;> simp only [List.length_append, List.length_cons, List.length_nil, sI_len] <;> omega) | grind))), (by rw [hX157]; exact (hE156.sub (L' := [(3, .slice b13 ((ap).length) c14), (9, .int .i64 ((ap).length : Int)), (10, .int .i64 t10)]) ⟨rfl, rfl, rfl, trivial⟩)), (by rw [hX157]; exact (St.pick (Γ' := [.own 2 1 b13 ((ap).length) c14 out3, .rd 1 apA ap.length apC ap]) hS30 [0, 1] (by decide) rfl))⟩
  ·
   rintro a158 w159 ⟨hi163, hi164, hE160, hS161⟩; clear hE25 hS11
   refine p_tn ?_
   refine c_seq ?_
   refine c_reg ?_
   refine q_step (v := .slice b13 ((ap).length) c14) hE160 (y_move rfl) rfl rfl rfl ?_; intro a165 hE166; clear hE160
   refine q_step (v := .slice b13 ((ap).length) c14) hE166 (y_assign rfl) rfl rfl rfl ?_; intro a167 hE168; clear hE166
   refine c_nil ?_
   have hE169 := hE168.sub (L' := [(2, .slice b13 ((ap).length) c14)]) ⟨rfl, trivial⟩; clear hE168
   refine p_tn ?_
   refine wp_ret ?_
   have hF : F_transitive ap = (F_transitive_L1 ap (Int.toNat (((ap).length : Int) - 0) + 1) 0 ap).2 := by unfold F_transitive; rfl
   refine c_ret1 hE169 rfl rfl ?_
   exact ⟨b13, c14, (by rw [hF]; first | rfl | (rw [(St.rdO (i := 0) hS161 rfl).len1])), (by rw [hF, (St.rdO (i := 0) hS161 rfl).len1]; (try dsimp only); exact hS161.ok 0 _ rfl), hS161.ext⟩
theorem shr_pos63 {m k : Int} (h1 : m < 4611686018427387904) (h0 : 0 ≤ k) : 0 < shrI m k → k ≤ 61 := by
  intro h
  apply Decidable.byContradiction
  intro hk
  have e : shrI m k = m / 2 ^ min k.toNat 64 := by
    unfold shrI; exact Int.fdiv_eq_ediv_of_nonneg _ (Int.pow_nonneg (by decide))
  have h2 : (2 : Int) ^ 62 ≤ 2 ^ min k.toNat 64 := by
    exact_mod_cast Nat.pow_le_pow_right (by omega) (show 62 ≤ min k.toNat 64 by omega)
  have h3 : m / 2 ^ min k.toNat 64 ≤ 0 := by
    rcases Int.lt_or_le m 0 with hm | hm
    · exact Int.le_of_lt (Int.ediv_neg_of_neg_of_pos hm (by omega))
    · rw [Int.ediv_eq_zero_of_lt hm (by omega)]; decide
  omega
def F_membersOf_L1b (mask : Int) (rec : (List Int) → Int → (List Int) × Int) (out3 : List Int) (i4 : Int) : (List Int) × Int :=
  bif (decide (0 < (shrI mask i4))) then (rec (bif (F_has mask i4) then out3 ++ ([i4]) else out3) (i4 + 1)) else (out3, i4)
def F_membersOf_L1 (mask : Int) : Nat → (List Int) → Int → (List Int) × Int
  | 0, out3, i4 => (out3, i4)
  | r + 1, out3, i4 => F_membersOf_L1b mask (F_membersOf_L1 mask r) out3 i4
def F_membersOf (mask : Int) : List Int :=
  (F_membersOf_L1 mask (Int.toNat (63 - 0) + 1) ([]) 0).1
theorem cf_membersOf (args : Array Value) (w : World) : (callFunc 194 args).run Try.prog w = .ok (.enter 194 args) w := by kernel_rfl
set_option maxRecDepth 100000 in
theorem c_membersOf (mask : Int) (w : World) (h0 : 0 ≤ mask) (h1 : mask < 4611686018427387904) :
    Calls Try.prog 194 #[.int .i64 mask] w (Ret fun v w' => ∃ b1 : Option Addr, ∃ c1 : Nat, v = .slice b1 (F_membersOf mask).length c1 ∧ OwnS w' w.heap.size 2 1 b1 (F_membersOf mask).length c1 (F_membersOf mask) ∧ Ext w w') := by
  have hS := St.nil w
  refine enter (args := [.int .i64 mask]) Try.func194 rfl rfl ?_
  rw [Try.ntmps194]; intro a hE
  have hE := hE.sub (L' := [(0, .int .i64 mask)]) ⟨rfl, trivial⟩
  refine c_seq ?_
  refine c_reg ?_
  refine q_step (v := .slice none 0 0) hE (y_assign rfl) rfl rfl rfl ?_; intro a1 hE2; clear hE
  refine c_nil ?_
  have hE3 := hE2.sub (L' := [(0, .int .i64 mask)]) ⟨rfl, trivial⟩; clear hE2
  refine p_tn ?_
  refine c_seq ?_
  refine c_reg ?_
  refine q_step (v := .slice none 0 0) hE3 (y_assign rfl) rfl rfl rfl ?_; intro a4 hE5; clear hE3
  refine c_nil ?_
  have hE6 := hE5.sub (L' := [(0, .int .i64 mask), (3, .slice none 0 0)]) ⟨rfl, rfl, trivial⟩; clear hE5
  refine p_tn ?_
  refine c_seq ?_
  refine c_seq ?_
  refine c_reg ?_
  refine q_step (v := .int .i64 0) hE6 (y_assign rfl) rfl rfl rfl ?_; intro a7 hE8; clear hE6
  refine c_nil ?_
  have hE9 := hE8.sub (L' := [(0, .int .i64 mask), (3, .slice none 0 0), (4, .int .i64 0)]) ⟨rfl, rfl, rfl, trivial⟩; clear hE8
  refine p_tn ?_
  have hS10 := St.nils hS 2 1; clear hS
  refine c_cut1 (fun a' w' => ∃ out3A_11 : Option Addr, ∃ out3C_11 : Nat, (0 ≤ ((F_membersOf_L1 mask (Int.toNat (63 - 0) + 1) ([]) 0).2)) ∧ (((F_membersOf_L1 mask (Int.toNat (63 - 0) + 1) ([]) 0).2) ≤ 62) ∧ ((((F_membersOf_L1 mask (Int.toNat (63 - 0) + 1) ([]) 0).1).length : Int) ≤ ((F_membersOf_L1 mask (Int.toNat (63 - 0) + 1) ([]) 0).2)) ∧ E a' 19 [(0, .int .i64 mask), (3, .slice out3A_11 (((F_membersOf_L1 mask (Int.toNat (63 - 0) + 1) ([]) 0).1).length) out3C_11), (4, .int .i64 ((F_membersOf_L1 mask (Int.toNat (63 - 0) + 1) ([]) 0).2))] ∧ St w w' [.own 2 1 out3A_11 (((F_membersOf_L1 mask (Int.toNat (63 - 0) + 1) ([]) 0).1).length) out3C_11 ((F_membersOf_L1 mask (Int.toNat (63 - 0) + 1) ([]) 0).1)]) ?_ ?_
  ·
   refine wp_block ?_
   refine c_loop (fun r a' w' => ∃ out3 : List Int, ∃ i4 : Int, ∃ out3A : Option Addr, ∃ out3C : Nat, F_membersOf_L1 mask r out3 i4 = F_membersOf_L1 mask (Int.toNat (63 - 0) + 1) ([]) 0 ∧ Int.toNat (63 - i4) < r ∧ (0 ≤ i4) ∧ (i4 ≤ 62) ∧ ((out3.length : Int) ≤ i4) ∧ E a' 19 [(0, .int .i64 mask), (3, .slice out3A ((out3).length) out3C), (4, .int .i64 i4)] ∧ St w w' [.own 2 1 out3A ((out3).length) out3C out3]) (r := (Int.toNat (63 - 0) + 1)) ?_ ?_
   · exact ⟨[], 0, none, 0, rfl, Nat.lt_succ_self _, (by first | omega | (simp only [sS_len, sL_len]; omega) | (simp only [List.length_replicate, sI_len]; omega) | (simp only [List.length_append, List.length_cons, List.length_nil, sI_len, cond_true, cond_false]; omega) | (simp only [List.length_append, List.length_cons, List.length_nil, sI_len, cond_eq_ite, apply_ite List.length]; split <;> simp only [List.length_append, List.length_cons, List.length_nil, sI_len] <;> omega) | grind), (by first | omega | (simp only [sS_len, sL_len]; omega) | (simp only [List.length_replicate, sI_len]; omega) | (simp only [List.length_append, List.length_cons, List.length_nil, sI_len, cond_true, cond_false]; omega) | (simp only [List.length_append, List.length_cons, List.length_nil, sI_len, cond_eq_ite, apply_ite List.length]; split <;> simp only [List.length_append, List.length_cons, List.length_nil, sI_len] <;> omega) | grind), (by first | omega | (simp only [sS_len, sL_len]; omega) | (simp only [List.length_replicate, sI_len]; omega) | (simp only [List.length_append, List.length_cons, List.length_nil, sI_len, cond_true, cond_false]; omega) | (simp only [List.length_append, List.length_cons, List.length_nil, sI_len, cond_eq_ite, apply_ite List.length]; split <;> simp only [List.length_append, List.length_cons, List.length_nil, sI_len] <;> omega) | grind), (hE9.sub (L' := [(0, .int .i64 mask), (3, .slice none 0 0), (4, .int .i64 0)]) ⟨rfl, rfl, rfl, trivial⟩), (St.pick (Γ' := [.own 2 1 none 0 0 ([])]) hS10 [0] (by decide) rfl)⟩
   ·
    clear hE9 hS10
    rintro r21 a12 w13 ⟨out3, i4, out3A, out3C, hT16, hr17, hi18, hi19, hi20, hE14, hS15⟩
    obtain ⟨r21, rfl⟩ : ∃ r', r21 = r' + 1 := ⟨r21 - 1, by omega⟩
    have hsh := shr_pos63 (m := mask) (k := i4) h1 (by omega)
    refine c_seq ?_
    refine c_seq ?_
    refine c_reg ?_
    refine q_step (v := .int .i64 mask) hE14 (y_move rfl) rfl rfl rfl ?_; intro a22 hE23; clear hE14
    refine q_step (v := .int .i64 i4) hE23 (y_move rfl) rfl rfl rfl ?_; intro a24 hE25; clear hE23
    refine q_step (v := .int .i64 (shrI mask i4)) hE25 (y_shr rfl rfl (by omega)) rfl rfl rfl ?_; intro a26 hE27; clear hE25
    refine q_step (v := .bool (decide (0 < (shrI mask i4)))) hE27 (y_gtr rfl rfl) rfl rfl rfl ?_; intro a28 hE29; clear hE27
    refine c_nil ?_
    have hE30 := hE29.sub (L' := [(0, .int .i64 mask), (3, .slice out3A ((out3).length) out3C), (4, .int .i64 i4), (8, .bool (decide (0 < (shrI mask i4))))]) ⟨rfl, rfl, rfl, rfl, trivial⟩; clear hE29
    refine p_tn ?_
    refine c_cond hE30 rfl (fun ht31 => ?_) (fun ht31 => ?_)
    ·
     have hp32 := of_decide_eq_true ht31
     have hE33 := hE30; rw [ht31] at hE33; clear hE30
     refine wp_skip ?_
     refine p_tn ?_
     refine c_cut (fun a' w' => ∃ b34 : Option Addr, ∃ c35 : Nat, E a' 19 [(0, .int .i64 mask), (3, .slice b34 ((bif (F_has mask i4) then out3 ++ ([i4]) else out3).length) c35), (4, .int .i64 i4)] ∧ St w w' [.own 2 1 b34 ((bif (F_has mask i4) then out3 ++ ([i4]) else out3).length) c35 (bif (F_has mask i4) then out3 ++ ([i4]) else out3)]) ?_ ?_
     ·
      refine wp_block ?_
      refine c_seq ?_
      refine c_reg ?_
      refine q_step (v := .int .i64 mask) hE33 (y_move rfl) rfl rfl rfl ?_; intro a36 hE37; clear hE33
      refine q_step (v := .int .i64 i4) hE37 (y_move rfl) rfl rfl rfl ?_; intro a38 hE39; clear hE37
      refine l_step hE39 rfl (l_call (f := 177) (argv := [.int .i64 mask, .int .i64 i4]) hE39 (fun _ => cf_has _ _) rfl rfl (c_has mask i4 w13 (by omega)) ?_)
      rintro _ _ ⟨rfl, rfl⟩ a42 hE43; clear hE39
      refine c_nil ?_
      have hE46 := hE43.sub (L' := [(0, .int .i64 mask), (3, .slice out3A ((out3).length) out3C), (4, .int .i64 i4), (13, .bool (F_has mask i4))]) ⟨rfl, rfl, rfl, rfl, trivial⟩; clear hE43
      refine p_tn ?_
      refine c_cond hE46 rfl (fun ht47 => ?_) (fun ht47 => ?_)
      ·
       have hE48 := hE46; rw [ht47] at hE48; clear hE46
       refine c_reg ?_
       refine q_step (v := .slice out3A ((out3).length) out3C) hE48 (y_move rfl) rfl rfl rfl ?_; intro a49 hE50; clear hE48
       refine q_step (v := .int .i64 i4) hE50 (y_move rfl) rfl rfl rfl ?_; intro a51 hE52; clear hE50
       refine l_step hE52 rfl (l_lit (e := 2) (s := 1) (xs := [i4]) (vs := [.int .i64 i4]) hS15 hE52 rfl (fun _ => by kernel_rfl) rfl rfl rfl ?_)
       intro b53 w54 hS57 he58 a55 hE56; clear hS15 hE52
       obtain ⟨_, hi1, hi2, hi3, hi4⟩ := info_parts (show (Try.prog.info? 2).map (fun i => (i.zero, i.size, i.bytes)) = some (some (.int .i64 0), 1, 8) by kernel_rfl)
       refine l_step hE56 rfl (l_append (k := 1) (n' := (out3 ++ ([i4])).length) hS57 hE56 (by kernel_rfl) hi1 hi2 hi3 rfl (by decide) (by rw [hi4]; decide) rfl rfl rfl (St.rdO (i := 0) hS57 rfl) (by first | omega | (simp only [List.length_append, List.length_cons, List.length_nil]; omega)) (by have h1 := (St.rdO (i := 1) hS57 rfl).len1; have h2 := (St.rdO (i := 0) hS57 rfl).len1; first | rw [List.length_append, h1, h2] | (simp only [List.length_append])) rfl ?_)
       intro b59 c65 w60 hS63 a61 hE62; clear hS57 hE56 hi1 hi2 hi3 hi4
       refine q_step (v := .slice b59 ((out3 ++ ([i4])).length) c65) hE62 (y_assign rfl) rfl rfl rfl ?_; intro a66 hE67; clear hE62
       refine c_nil ?_
       have hE68 := hE67.sub (L' := [(0, .int .i64 mask), (3, .slice b59 ((out3 ++ ([i4])).length) c65), (4, .int .i64 i4)]) ⟨rfl, rfl, rfl, trivial⟩; clear hE67
       refine p_bn ?_
       refine p_tn ?_
       have hE69 := hE68.sub (L' := [(0, .int .i64 mask), (3, .slice b59 ((out3 ++ ([i4])).length) c65), (4, .int .i64 i4)]) ⟨rfl, rfl, rfl, trivial⟩
       have hS70 := (St.pick (Γ' := [.own 2 1 b59 ((out3 ++ ([i4])).length) c65 (out3 ++ ([i4]))]) hS63 [1] (by decide) rfl)
       exact ⟨b59, c65, (by rw [ht47]; exact hE69), (by rw [ht47]; exact hS70)⟩
      ·
       have hE71 := hE46; rw [ht47] at hE71; clear hE46
       refine wp_skip ?_
       refine p_bn ?_
       refine p_tn ?_
       have hE72 := hE71.sub (L' := [(0, .int .i64 mask), (3, .slice out3A ((out3).length) out3C), (4, .int .i64 i4)]) ⟨rfl, rfl, rfl, trivial⟩
       have hS73 := (St.pick (Γ' := [.own 2 1 out3A ((out3).length) out3C out3]) hS15 [0] (by decide) rfl)
       exact ⟨out3A, out3C, (by rw [ht47]; exact hE72), (by rw [ht47]; exact hS73)⟩
     ·
      rintro a74 w75 ⟨b34, c35, hE76, hS77⟩; clear hE33 hS15
      refine c_reg ?_
      refine q_step (v := .int .i64 i4) hE76 (y_move rfl) rfl rfl rfl ?_; intro a79 hE80; clear hE76
      refine q_step (v := .int .i64 (i4 + 1)) hE80 (y_add rfl rfl ⟨(by omega), (by omega)⟩) rfl rfl rfl ?_; intro a81 hE82; clear hE80
      refine q_step (v := .int .i64 (i4 + 1)) hE82 (y_assign rfl) rfl rfl rfl ?_; intro a83 hE84; clear hE82
      refine c_nil ?_
      have hE85 := hE84.sub (L' := [(0, .int .i64 mask), (3, .slice b34 ((bif (F_has mask i4) then out3 ++ ([i4]) else out3).length) c35), (4, .int .i64 (i4 + 1))]) ⟨rfl, rfl, rfl, trivial⟩; clear hE84
      have hl86 := (St.rdO (i := 0) hS77 rfl).len1
      refine p_tn ⟨r21, Nat.lt_succ_self _, bif (F_has mask i4) then out3 ++ ([i4]) else out3, i4 + 1, b34, c35, (hT16.symm.trans (show F_membersOf_L1b mask (F_membersOf_L1 mask r21) out3 i4 = F_membersOf_L1 mask r21 (bif (F_has mask i4) then out3 ++ ([i4]) else out3) (i4 + 1) by unfold F_membersOf_L1b; rw [ht31]; first | done | rfl)).symm, (by omega), (by first | omega | (simp only [sS_len, sL_len]; omega) | (simp only [List.length_replicate, sI_len]; omega) | (simp only [List.length_append, List.length_cons, List.length_nil, sI_len, cond_true, cond_false]; omega) | (simp only [List.length_append, List.length_cons, List.length_nil, sI_len, cond_eq_ite, apply_ite List.length]; split <;> simp only [List.length_append, List.length_cons, List.length_nil, sI_len] <;> omega) | grind), (by first | omega | (simp only [sS_len, sL_len]; omega) | (simp only [List.length_replicate, sI_len]; omega) | (simp only [List.length_append, List.length_cons, List.length_nil, sI_len, cond_true, cond_false]; omega) | (simp only [List.length_append, List.length_cons, List.length_nil, sI_len, cond_eq_ite, apply_ite List.length]; split <;> simp only [List.length_append, List.length_cons, List.length_nil, sI_len] <;> omega) | grind), (by first | omega | (simp only [sS_len, sL_len]; omega) | (simp only [List.length_replicate, sI_len]; omega) | (simp only [List.length_append, List.length_cons, List.length_nil, sI_len, cond_true, cond_false]; omega) | (simp only [List.length_append, List.length_cons, List.length_nil, sI_len, cond_eq_ite, apply_ite List.length]; split <;> simp only [List.length_append, List.length_cons, List.length_nil, sI_len] <;> omega) | grind), (hE85.sub (L' := [(0, .int .i64 mask), (3, .slice b34 ((bif (F_has mask i4) then out3 ++ ([i4]) else out3).length) c35), (4, .int .i64 (i4 + 1))]) ⟨rfl, rfl, rfl, trivial⟩), (St.pick (Γ' := [.own 2 1 b34 ((bif (F_has mask i4) then out3 ++ ([i4]) else out3).length) c35 (bif (F_has mask i4) then out3 ++ ([i4]) else out3)]) hS77 [0] (by decide) rfl)⟩
    ·
     have hp87 := of_decide_eq_false ht31
     have hE88 := hE30; rw [ht31] at hE88; clear hE30
     refine wp_exit ?_
     refine p_te ?_
     have hX89 : F_membersOf_L1 mask (Int.toNat (63 - 0) + 1) ([]) 0 = (out3, i4) := hT16.symm.trans (show F_membersOf_L1b mask (F_membersOf_L1 mask r21) out3 i4 = (out3, i4) by unfold F_membersOf_L1b; rw [ht31]; first | done | rfl)
     refine p_te (p_be (p_tn ?_))
     exact ⟨out3A, out3C, (by rw [hX89]; exact (show 0 ≤ i4 from (by first | omega | (simp only [sS_len, sL_len]; omega) | (simp only [List.length_replicate, sI_len]; omega) | (simp only [List.length_append, List.length_cons, List.length_nil, sI_len, cond_true, cond_false]; omega) | (simp only [List.length_append, List.length_cons, List.length_nil, sI_len, cond_eq_ite, apply_ite List.length]; split <;> simp only [List.length_append, List.length_cons, List.length_nil, sI_len] <;> omega) | grind))), (by rw [hX89]; exact (show i4 ≤ 62 from (by first | omega | (simp only [sS_len, sL_len]; omega) | (simp only [List.length_replicate, sI_len]; omega) | (simp only [List.length_append, List.length_cons, List.length_nil, sI_len, cond_true, cond_false]; omega) | (simp only [List.length_append, List.length_cons, List.length_nil, sI_len, cond_eq_ite, apply_ite List.length]; split <;> simp only [List.length_append, List.length_cons, List.length_nil, sI_len] <;> omega) | grind))), (by rw [hX89]; exact (show (out3.length : Int) ≤ i4 from (by first | omega | (simp only [sS_len, sL_len]; omega) | (simp only [List.length_replicate, sI_len]; omega) | (simp only [List.length_append, List.length_cons, List.length_nil, sI_len, cond_true, cond_false]; omega) | (simp only [List.length_append, List.length_cons, List.length_nil, sI_len, cond_eq_ite, apply_ite List.length]; split <;> simp only [List.length_append, List.length_cons, List.length_nil, sI_len] <;> omega) | grind))), (by rw [hX89]; exact (hE88.sub (L' := [(0, .int .i64 mask), (3, .slice out3A ((out3).length) out3C), (4, .int .i64 i4)]) ⟨rfl, rfl, rfl, trivial⟩)), (by rw [hX89]; exact (St.pick (Γ' := [.own 2 1 out3A ((out3).length) out3C out3]) hS15 [0] (by decide) rfl))⟩
  ·
   rintro a90 w91 ⟨out3A_11, out3C_11, hi95, hi96, hi97, hE92, hS93⟩; clear hE9 hS10
   refine p_tn ?_
   refine c_seq ?_
   refine c_reg ?_
   refine q_step (v := .slice out3A_11 (((F_membersOf_L1 mask (Int.toNat (63 - 0) + 1) ([]) 0).1).length) out3C_11) hE92 (y_move rfl) rfl rfl rfl ?_; intro a98 hE99; clear hE92
   refine q_step (v := .slice out3A_11 (((F_membersOf_L1 mask (Int.toNat (63 - 0) + 1) ([]) 0).1).length) out3C_11) hE99 (y_assign rfl) rfl rfl rfl ?_; intro a100 hE101; clear hE99
   refine c_nil ?_
   have hE102 := hE101.sub (L' := [(2, .slice out3A_11 (((F_membersOf_L1 mask (Int.toNat (63 - 0) + 1) ([]) 0).1).length) out3C_11)]) ⟨rfl, trivial⟩; clear hE101
   refine p_tn ?_
   refine wp_ret ?_
   have hF : F_membersOf mask = (F_membersOf_L1 mask (Int.toNat (63 - 0) + 1) ([]) 0).1 := by unfold F_membersOf; rfl
   refine c_ret1 hE102 rfl rfl ?_
   exact ⟨out3A_11, out3C_11, (by rw [hF]; first | done | (dsimp only; done) | rfl), (by rw [hF]; (try dsimp only); exact hS93.ok 0 _ rfl), hS93.ext⟩
theorem pow_shl {i : Int} (h0 : 0 ≤ i) (h1 : i ≤ 62) : shlI 1 i = powI i := shlI_one h0 h1
end Go.Proofs.Ytkilkfhjfobcdaa
