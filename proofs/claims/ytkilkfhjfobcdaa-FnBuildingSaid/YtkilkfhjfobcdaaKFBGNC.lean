/- GNC: models and contracts, printed by wip/gen/gen.py -/
import Derived.Test.YtkilkfhjfobcdaaKFBGNB
set_option linter.unusedVariables false
set_option linter.unusedSimpArgs false
namespace Go.Proofs.Ytkilkfhjfobcdaa
open Go.RowKit
def F_limited_f (ap : List Int) : (List Int) × (Int) :=
  (ap, 0)
theorem cf_limited_f (args : Array Value) (w : World) : (callFunc 83 args).run Try.prog w = .ok (.enter 83 args) w := by kernel_rfl
set_option maxRecDepth 100000 in
theorem c_limited_f (apA : Option Addr) (apN apC : Nat) (ap : List Int) (w : World) (apR : RdS w 2 apA apN apC ap) (hc : decide (40 < (((ap).length / 2 : Nat) : Int)) = false) :
    Calls Try.prog 83 #[.slice apA apN apC] w (Ret fun v w' => v = .tuple #[.slice apA apN apC, .int .i64 ((F_limited_f ap).2)] ∧ w = w') := by
  obtain rfl : apN = ap.length / 2 := (apR.lenD (by decide)).symm
  have apEv := apR.ev (by decide)
  have apLe := apR.le
  have hS := St.nil w
  have hS1 := St.rd0 hS rfl apR; clear hS
  refine enter (args := [.slice apA ((ap).length / 2 : Nat) apC]) Try.func83 rfl rfl ?_
  rw [Try.ntmps83]; intro a hE
  have hE := hE.sub (L' := [(0, .slice apA ((ap).length / 2 : Nat) apC)]) ⟨rfl, trivial⟩
  have hz2 : (decide (40 < (((ap).length / 2 : Nat) : Int))) = false := hc
  refine c_seq ?_
  refine c_reg ?_
  refine q_step (v := .slice none 0 0) hE (y_assign rfl) rfl rfl rfl ?_; intro a3 hE4; clear hE
  refine q_step (v := .int .i64 0) hE4 (y_assign rfl) rfl rfl rfl ?_; intro a5 hE6; clear hE4
  refine c_nil ?_
  have hE7 := hE6.sub (L' := [(0, .slice apA ((ap).length / 2 : Nat) apC)]) ⟨rfl, trivial⟩; clear hE6
  refine p_tn ?_
  refine c_seq ?_
  refine c_seq ?_
  refine c_reg ?_
  refine q_step (v := .slice apA ((ap).length / 2 : Nat) apC) hE7 (y_move rfl) rfl rfl rfl ?_; intro a8 hE9; clear hE7
  refine q_step (v := .int .i64 (((ap).length / 2 : Nat) : Int)) hE9 (y_len (e := 94) (by kernel_rfl) rfl) rfl rfl rfl ?_; intro a10 hE11; clear hE9
  refine q_step (v := .bool (decide (40 < (((ap).length / 2 : Nat) : Int)))) hE11 (y_gtr rfl rfl) rfl rfl rfl ?_; intro a12 hE13; clear hE11
  refine c_nil ?_
  have hE14 := hE13.sub (L' := [(0, .slice apA ((ap).length / 2 : Nat) apC), (6, .bool (decide (40 < (((ap).length / 2 : Nat) : Int))))]) ⟨rfl, rfl, trivial⟩; clear hE13
  refine p_tn ?_
  have hE15 := hE14; rw [hz2] at hE15; clear hE14
  refine c_false hE15 rfl ?_
  refine wp_skip ?_
  refine p_tn ?_
  refine c_seq ?_
  refine c_reg ?_
  refine q_step (v := .slice apA ((ap).length / 2 : Nat) apC) hE15 (y_move rfl) rfl rfl rfl ?_; intro a16 hE17; clear hE15
  refine q_step (v := .slice apA ((ap).length / 2 : Nat) apC) hE17 (y_assign rfl) rfl rfl rfl ?_; intro a18 hE19; clear hE17
  refine q_step (v := .int .i64 0) hE19 (y_assign rfl) rfl rfl rfl ?_; intro a20 hE21; clear hE19
  refine c_nil ?_
  have hE22 := hE21.sub (L' := [(2, .slice apA ((ap).length / 2 : Nat) apC), (3, .int .i64 0)]) ⟨rfl, rfl, trivial⟩; clear hE21
  refine p_tn ?_
  refine wp_ret ?_
  have hF : F_limited_f ap = (ap, 0) := by unfold F_limited_f; rfl
  refine c_ret2 hE22 rfl rfl rfl ?_
  exact ⟨(by rw [hF]; first | done | (dsimp only; done) | rfl), rfl⟩
def F_limited_t (ap : List Int) : (List Int) × (Int) :=
  ([], 3)
set_option maxRecDepth 100000 in
theorem c_limited_t (apA : Option Addr) (apN apC : Nat) (ap : List Int) (w : World) (apR : RdS w 2 apA apN apC ap) (hc : decide (40 < (((ap).length / 2 : Nat) : Int)) = true) :
    Calls Try.prog 83 #[.slice apA apN apC] w (Ret fun v w' => v = .tuple #[.slice none 0 0, .int .i64 ((F_limited_t ap).2)] ∧ w = w') := by
  obtain rfl : apN = ap.length / 2 := (apR.lenD (by decide)).symm
  have apEv := apR.ev (by decide)
  have apLe := apR.le
  have hS := St.nil w
  have hS1 := St.rd0 hS rfl apR; clear hS
  refine enter (args := [.slice apA ((ap).length / 2 : Nat) apC]) Try.func83 rfl rfl ?_
  rw [Try.ntmps83]; intro a hE
  have hE := hE.sub (L' := [(0, .slice apA ((ap).length / 2 : Nat) apC)]) ⟨rfl, trivial⟩
  have hz2 : (decide (40 < (((ap).length / 2 : Nat) : Int))) = true := hc
  refine c_seq ?_
  refine c_reg ?_
  refine q_step (v := .slice none 0 0) hE (y_assign rfl) rfl rfl rfl ?_; intro a3 hE4; clear hE
  refine q_step (v := .int .i64 0) hE4 (y_assign rfl) rfl rfl rfl ?_; intro a5 hE6; clear hE4
  refine c_nil ?_
  have hE7 := hE6.sub (L' := [(0, .slice apA ((ap).length / 2 : Nat) apC)]) ⟨rfl, trivial⟩; clear hE6
  refine p_tn ?_
  refine c_seq ?_
  refine c_seq ?_
  refine c_reg ?_
  refine q_step (v := .slice apA ((ap).length / 2 : Nat) apC) hE7 (y_move rfl) rfl rfl rfl ?_; intro a8 hE9; clear hE7
  refine q_step (v := .int .i64 (((ap).length / 2 : Nat) : Int)) hE9 (y_len (e := 94) (by kernel_rfl) rfl) rfl rfl rfl ?_; intro a10 hE11; clear hE9
  refine q_step (v := .bool (decide (40 < (((ap).length / 2 : Nat) : Int)))) hE11 (y_gtr rfl rfl) rfl rfl rfl ?_; intro a12 hE13; clear hE11
  refine c_nil ?_
  have hE14 := hE13.sub (L' := [(0, .slice apA ((ap).length / 2 : Nat) apC), (6, .bool (decide (40 < (((ap).length / 2 : Nat) : Int))))]) ⟨rfl, rfl, trivial⟩; clear hE13
  refine p_tn ?_
  have hE15 := hE14; rw [hz2] at hE15; clear hE14
  refine c_true hE15 rfl ?_
  refine c_seq ?_
  refine c_reg ?_
  refine q_step (v := .slice none 0 0) hE15 (y_assign rfl) rfl rfl rfl ?_; intro a16 hE17; clear hE15
  refine q_step (v := .int .i64 3) hE17 (y_assign rfl) rfl rfl rfl ?_; intro a18 hE19; clear hE17
  refine c_nil ?_
  have hE20 := hE19.sub (L' := [(2, .slice none 0 0), (3, .int .i64 3)]) ⟨rfl, rfl, trivial⟩; clear hE19
  refine p_tn ?_
  refine wp_ret ?_
  refine p_tr ?_
  have hF : F_limited_t ap = ([], 3) := by unfold F_limited_t; rfl
  refine c_ret2 hE20 rfl rfl rfl ?_
  exact ⟨(by rw [hF]; first | done | (dsimp only; done) | rfl), rfl⟩
theorem d_limited_f (apA : Option Addr) (apN apC : Nat) (ap : List Int) (w : World) (apR : RdS w 2 apA apN apC ap) (h : decide (40 < ((ap.length / 2 : Nat) : Int)) = false) :
    Calls Try.prog 83 #[.slice apA apN apC] w (Ret fun v w' => v = .tuple #[.slice apA apN apC, .int .i64 0] ∧ w = w') := by
  have e : F_limited_f ap = (ap, 0) := by unfold F_limited_f; rfl
  have := c_limited_f apA apN apC ap w apR h
  rwa [e] at this
theorem d_limited_t (apA : Option Addr) (apN apC : Nat) (ap : List Int) (w : World) (apR : RdS w 2 apA apN apC ap) (h : decide (40 < ((ap.length / 2 : Nat) : Int)) = true) :
    Calls Try.prog 83 #[.slice apA apN apC] w (Ret fun v w' => v = .tuple #[.slice none 0 0, .int .i64 3] ∧ w = w') := by
  have e : F_limited_t ap = ([], 3) := by unfold F_limited_t; rfl
  have := c_limited_t apA apN apC ap w apR h
  rwa [e] at this
def F_l02Made_f (ap : List Int) : (List Int) × (Int) :=
  (ap, 0)
theorem cf_l02Made_f (args : Array Value) (w : World) : (callFunc 81 args).run Try.prog w = .ok (.enter 81 args) w := by kernel_rfl
set_option maxRecDepth 100000 in
theorem c_l02Made_f (apA : Option Addr) (apN apC : Nat) (ap : List Int) (w : World) (apR : RdS w 2 apA apN apC ap) (hc : decide (40 < (((ap).length / 2 : Nat) : Int)) = false) :
    Calls Try.prog 81 #[.slice apA apN apC] w (Ret fun v w' => v = .tuple #[.slice apA apN apC, .int .i64 ((F_l02Made_f ap).2)] ∧ w = w') := by
  obtain rfl : apN = ap.length / 2 := (apR.lenD (by decide)).symm
  have apEv := apR.ev (by decide)
  have apLe := apR.le
  have hS := St.nil w
  have hS1 := St.rd0 hS rfl apR; clear hS
  refine enter (args := [.slice apA ((ap).length / 2 : Nat) apC]) Try.func81 rfl rfl ?_
  rw [Try.ntmps81]; intro a hE
  have hE := hE.sub (L' := [(0, .slice apA ((ap).length / 2 : Nat) apC)]) ⟨rfl, trivial⟩
  have hz2 : (decide (40 < (((ap).length / 2 : Nat) : Int))) = false := hc
  refine c_seq ?_
  refine c_reg ?_
  refine q_step (v := .slice none 0 0) hE (y_assign rfl) rfl rfl rfl ?_; intro a3 hE4; clear hE
  refine q_step (v := .int .i64 0) hE4 (y_assign rfl) rfl rfl rfl ?_; intro a5 hE6; clear hE4
  refine c_nil ?_
  have hE7 := hE6.sub (L' := [(0, .slice apA ((ap).length / 2 : Nat) apC)]) ⟨rfl, trivial⟩; clear hE6
  refine p_tn ?_
  refine c_seq ?_
  refine c_seq ?_
  refine c_reg ?_
  refine q_step (v := .slice apA ((ap).length / 2 : Nat) apC) hE7 (y_move rfl) rfl rfl rfl ?_; intro a8 hE9; clear hE7
  refine q_step (v := .int .i64 (((ap).length / 2 : Nat) : Int)) hE9 (y_len (e := 94) (by kernel_rfl) rfl) rfl rfl rfl ?_; intro a10 hE11; clear hE9
  refine q_step (v := .bool (decide (40 < (((ap).length / 2 : Nat) : Int)))) hE11 (y_gtr rfl rfl) rfl rfl rfl ?_; intro a12 hE13; clear hE11
  refine c_nil ?_
  have hE14 := hE13.sub (L' := [(0, .slice apA ((ap).length / 2 : Nat) apC), (6, .bool (decide (40 < (((ap).length / 2 : Nat) : Int))))]) ⟨rfl, rfl, trivial⟩; clear hE13
  refine p_tn ?_
  have hE15 := hE14; rw [hz2] at hE15; clear hE14
  refine c_false hE15 rfl ?_
  refine wp_skip ?_
  refine p_tn ?_
  refine c_seq ?_
  refine c_reg ?_
  refine q_step (v := .slice apA ((ap).length / 2 : Nat) apC) hE15 (y_move rfl) rfl rfl rfl ?_; intro a16 hE17; clear hE15
  refine q_step (v := .slice apA ((ap).length / 2 : Nat) apC) hE17 (y_assign rfl) rfl rfl rfl ?_; intro a18 hE19; clear hE17
  refine q_step (v := .int .i64 0) hE19 (y_assign rfl) rfl rfl rfl ?_; intro a20 hE21; clear hE19
  refine c_nil ?_
  have hE22 := hE21.sub (L' := [(2, .slice apA ((ap).length / 2 : Nat) apC), (3, .int .i64 0)]) ⟨rfl, rfl, trivial⟩; clear hE21
  refine p_tn ?_
  refine wp_ret ?_
  have hF : F_l02Made_f ap = (ap, 0) := by unfold F_l02Made_f; rfl
  refine c_ret2 hE22 rfl rfl rfl ?_
  exact ⟨(by rw [hF]; first | done | (dsimp only; done) | rfl), rfl⟩
def F_l02Made_t (ap : List Int) : (List Int) × (Int) :=
  ([], 3)
set_option maxRecDepth 100000 in
theorem c_l02Made_t (apA : Option Addr) (apN apC : Nat) (ap : List Int) (w : World) (apR : RdS w 2 apA apN apC ap) (hc : decide (40 < (((ap).length / 2 : Nat) : Int)) = true) :
    Calls Try.prog 81 #[.slice apA apN apC] w (Ret fun v w' => v = .tuple #[.slice none 0 0, .int .i64 ((F_l02Made_t ap).2)] ∧ w = w') := by
  obtain rfl : apN = ap.length / 2 := (apR.lenD (by decide)).symm
  have apEv := apR.ev (by decide)
  have apLe := apR.le
  have hS := St.nil w
  have hS1 := St.rd0 hS rfl apR; clear hS
  refine enter (args := [.slice apA ((ap).length / 2 : Nat) apC]) Try.func81 rfl rfl ?_
  rw [Try.ntmps81]; intro a hE
  have hE := hE.sub (L' := [(0, .slice apA ((ap).length / 2 : Nat) apC)]) ⟨rfl, trivial⟩
  have hz2 : (decide (40 < (((ap).length / 2 : Nat) : Int))) = true := hc
  refine c_seq ?_
  refine c_reg ?_
  refine q_step (v := .slice none 0 0) hE (y_assign rfl) rfl rfl rfl ?_; intro a3 hE4; clear hE
  refine q_step (v := .int .i64 0) hE4 (y_assign rfl) rfl rfl rfl ?_; intro a5 hE6; clear hE4
  refine c_nil ?_
  have hE7 := hE6.sub (L' := [(0, .slice apA ((ap).length / 2 : Nat) apC)]) ⟨rfl, trivial⟩; clear hE6
  refine p_tn ?_
  refine c_seq ?_
  refine c_seq ?_
  refine c_reg ?_
  refine q_step (v := .slice apA ((ap).length / 2 : Nat) apC) hE7 (y_move rfl) rfl rfl rfl ?_; intro a8 hE9; clear hE7
  refine q_step (v := .int .i64 (((ap).length / 2 : Nat) : Int)) hE9 (y_len (e := 94) (by kernel_rfl) rfl) rfl rfl rfl ?_; intro a10 hE11; clear hE9
  refine q_step (v := .bool (decide (40 < (((ap).length / 2 : Nat) : Int)))) hE11 (y_gtr rfl rfl) rfl rfl rfl ?_; intro a12 hE13; clear hE11
  refine c_nil ?_
  have hE14 := hE13.sub (L' := [(0, .slice apA ((ap).length / 2 : Nat) apC), (6, .bool (decide (40 < (((ap).length / 2 : Nat) : Int))))]) ⟨rfl, rfl, trivial⟩; clear hE13
  refine p_tn ?_
  have hE15 := hE14; rw [hz2] at hE15; clear hE14
  refine c_true hE15 rfl ?_
  refine c_seq ?_
  refine c_reg ?_
  refine q_step (v := .slice none 0 0) hE15 (y_assign rfl) rfl rfl rfl ?_; intro a16 hE17; clear hE15
  refine q_step (v := .int .i64 3) hE17 (y_assign rfl) rfl rfl rfl ?_; intro a18 hE19; clear hE17
  refine c_nil ?_
  have hE20 := hE19.sub (L' := [(2, .slice none 0 0), (3, .int .i64 3)]) ⟨rfl, rfl, trivial⟩; clear hE19
  refine p_tn ?_
  refine wp_ret ?_
  refine p_tr ?_
  have hF : F_l02Made_t ap = ([], 3) := by unfold F_l02Made_t; rfl
  refine c_ret2 hE20 rfl rfl rfl ?_
  exact ⟨(by rw [hF]; first | done | (dsimp only; done) | rfl), rfl⟩
theorem d_l02Made_f (apA : Option Addr) (apN apC : Nat) (ap : List Int) (w : World) (apR : RdS w 2 apA apN apC ap) (h : decide (40 < ((ap.length / 2 : Nat) : Int)) = false) :
    Calls Try.prog 81 #[.slice apA apN apC] w (Ret fun v w' => v = .tuple #[.slice apA apN apC, .int .i64 0] ∧ w = w') := by
  have e : F_l02Made_f ap = (ap, 0) := by unfold F_l02Made_f; rfl
  have := c_l02Made_f apA apN apC ap w apR h
  rwa [e] at this
theorem d_l02Made_t (apA : Option Addr) (apN apC : Nat) (ap : List Int) (w : World) (apR : RdS w 2 apA apN apC ap) (h : decide (40 < ((ap.length / 2 : Nat) : Int)) = true) :
    Calls Try.prog 81 #[.slice apA apN apC] w (Ret fun v w' => v = .tuple #[.slice none 0 0, .int .i64 3] ∧ w = w') := by
  have e : F_l02Made_t ap = ([], 3) := by unfold F_l02Made_t; rfl
  have := c_l02Made_t apA apN apC ap w apR h
  rwa [e] at this
def F_z_GrowNode (np : Int) : List Int :=
  bif (decide (0 < (np - ((0 : Int) - (0 : Int))))) then (slI 2 (List.replicate (Int.toNat (np - ((0 : Int) - (0 : Int))) * 2) 0) 0 (0 : Int)) else ([])
theorem cf_z_GrowNode (args : Array Value) (w : World) : (callFunc 148 args).run Try.prog w = .ok (.enter 148 args) w := by kernel_rfl
set_option maxRecDepth 100000 in
theorem c_z_GrowNode (np : Int) (w : World) (h0 : 0 ≤ np) (h1 : np ≤ 4294967296) :
    Calls Try.prog 148 #[.slice none 0 0, .int .i64 np] w (Ret fun v w' => ∃ b1 : Option Addr, ∃ c1 : Nat, v = .slice b1 ((F_z_GrowNode np).length / 2 : Nat) c1 ∧ OwnS w' w.heap.size 94 2 b1 ((F_z_GrowNode np).length / 2 : Nat) c1 (F_z_GrowNode np) ∧ Ext w w') := by
  have hS := St.nil w
  refine enter (args := [.slice none 0 0, .int .i64 np]) Try.func148 rfl rfl ?_
  rw [Try.ntmps148]; intro a hE
  have hE := hE.sub (L' := [(0, .slice none 0 0), (1, .int .i64 np)]) ⟨rfl, rfl, trivial⟩
  refine c_seq ?_
  refine c_reg ?_
  refine q_step (v := .slice none 0 0) hE (y_assign rfl) rfl rfl rfl ?_; intro a1 hE2; clear hE
  refine c_nil ?_
  have hE3 := hE2.sub (L' := [(0, .slice none 0 0), (1, .int .i64 np)]) ⟨rfl, rfl, trivial⟩; clear hE2
  refine p_tn ?_
  refine c_seq ?_
  refine c_seq ?_
  refine c_reg ?_
  refine q_step (v := .int .i64 np) hE3 (y_move rfl) rfl rfl rfl ?_; intro a4 hE5; clear hE3
  refine q_step (v := .bool (decide (np < 0))) hE5 (y_lss rfl rfl) rfl rfl rfl ?_; intro a6 hE7; clear hE5
  refine c_nil ?_
  have hE8 := hE7.sub (L' := [(0, .slice none 0 0), (1, .int .i64 np), (6, .bool (decide (np < 0)))]) ⟨rfl, rfl, rfl, trivial⟩; clear hE7
  refine p_tn ?_
  refine c_cond hE8 rfl (fun ht9 => ?_) (fun ht9 => ?_)
  ·
   have hp10 := of_decide_eq_true ht9
   exfalso; omega
  ·
   have hp11 := of_decide_eq_false ht9
   have hE12 := hE8; rw [ht9] at hE12; clear hE8
   refine wp_skip ?_
   refine p_tn ?_
   refine c_seq ?_
   refine c_seq ?_
   refine c_reg ?_
   refine q_step (v := .int .i64 np) hE12 (y_move rfl) rfl rfl rfl ?_; intro a13 hE14; clear hE12
   refine q_step (v := .slice none 0 0) hE14 (y_move rfl) rfl rfl rfl ?_; intro a15 hE16; clear hE14
   refine q_step (v := .int .i64 (0 : Int)) hE16 (y_cap (by kernel_rfl) rfl) rfl rfl rfl ?_; intro a17 hE18; clear hE16
   refine q_step (v := .slice none 0 0) hE18 (y_move rfl) rfl rfl rfl ?_; intro a19 hE20; clear hE18
   refine q_step (v := .int .i64 (0 : Int)) hE20 (y_len (e := 94) (by kernel_rfl) rfl) rfl rfl rfl ?_; intro a21 hE22; clear hE20
   refine q_step (v := .int .i64 ((0 : Int) - (0 : Int))) hE22 (y_sub rfl rfl ⟨(by omega), (by omega)⟩) rfl rfl rfl ?_; intro a23 hE24; clear hE22
   refine q_step (v := .int .i64 (np - ((0 : Int) - (0 : Int)))) hE24 (y_sub rfl rfl ⟨(by omega), (by omega)⟩) rfl rfl rfl ?_; intro a25 hE26; clear hE24
   refine q_step (v := .int .i64 (np - ((0 : Int) - (0 : Int)))) hE26 (y_assign rfl) rfl rfl rfl ?_; intro a27 hE28; clear hE26
   refine c_nil ?_
   have hE29 := hE28.sub (L' := [(0, .slice none 0 0), (1, .int .i64 (np - ((0 : Int) - (0 : Int))))]) ⟨rfl, rfl, trivial⟩; clear hE28
   refine p_tn ?_
   refine c_seq ?_
   refine c_reg ?_
   refine q_step (v := .int .i64 (np - ((0 : Int) - (0 : Int)))) hE29 (y_move rfl) rfl rfl rfl ?_; intro a30 hE31; clear hE29
   refine q_step (v := .bool (decide (0 < (np - ((0 : Int) - (0 : Int)))))) hE31 (y_gtr rfl rfl) rfl rfl rfl ?_; intro a32 hE33; clear hE31
   refine c_nil ?_
   have hE34 := hE33.sub (L' := [(0, .slice none 0 0), (1, .int .i64 (np - ((0 : Int) - (0 : Int)))), (16, .bool (decide (0 < (np - ((0 : Int) - (0 : Int))))))]) ⟨rfl, rfl, rfl, trivial⟩; clear hE33
   refine p_tn ?_
   refine c_cond hE34 rfl (fun ht35 => ?_) (fun ht35 => ?_)
   ·
    have hp36 := of_decide_eq_true ht35
    have hE37 := hE34; rw [ht35] at hE37; clear hE34
    refine c_reg ?_
    refine q_step (v := .slice none 0 0) hE37 (y_move rfl) rfl rfl rfl ?_; intro a38 hE39; clear hE37
    refine q_step (v := .slice none 0 0) hE39 (y_move rfl) rfl rfl rfl ?_; intro a40 hE41; clear hE39
    refine q_step (v := .int .i64 (0 : Int)) hE41 (y_cap (by kernel_rfl) rfl) rfl rfl rfl ?_; intro a42 hE43; clear hE41
    refine q_step (v := .slice none 0 0) hE43 (y_sliceNil (s := 2) (by kernel_rfl) (fun _ => by kernel_rfl) rfl rfl) rfl rfl rfl ?_; intro a44 hE45; clear hE43
    refine q_step (v := .int .i64 (np - ((0 : Int) - (0 : Int)))) hE45 (y_move rfl) rfl rfl rfl ?_; intro a46 hE47; clear hE45
    obtain ⟨_, hi1, hi2, hi3, hi4⟩ := info_parts (show (Try.prog.info? 94).map (fun i => (i.zero, i.size, i.bytes)) = some (some (.agg #[.int .i64 0, .int .i64 0]), 2, 16) by kernel_rfl)
    refine l_step hE47 rfl (l_growz (e := 94) (s := 2) (n' := ((List.replicate (Int.toNat (np - ((0 : Int) - (0 : Int))) * 2) (0 : Int)).length / 2 : Nat)) hS hE47 (by kernel_rfl) (by kernel_rfl) hi1 hi2 hi3 rfl madeInts2 (by rw [hi4]; decide) rfl rfl (by omega) (by omega) (by decide) (by simp) rfl ?_)
    intro b48 c54 w49 hS52 he53 a50 hE51; clear hS hE47 hi1 hi2 hi3 hi4
    refine q_step (v := .slice none 0 0) hE51 (y_move rfl) rfl rfl rfl ?_; intro a55 hE56; clear hE51
    refine q_step (v := .int .i64 (0 : Int)) hE56 (y_len (e := 94) (by kernel_rfl) rfl) rfl rfl rfl ?_; intro a57 hE58; clear hE56
    have hv59 : (0 : Int) ≤ (0 : Int) ∧ (0 : Int) ≤ (((List.replicate (Int.toNat (np - ((0 : Int) - (0 : Int))) * 2) (0 : Int)).length / 2 : Nat) : Int) := ⟨(by omega), (by omega)⟩
    have hv60 := (St.rdO (i := 0) hS52 rfl).2.1
    have hv61 : Int.toNat (0 : Int) = ((slI 2 (List.replicate (Int.toNat (np - ((0 : Int) - (0 : Int))) * 2) 0) 0 (0 : Int)).length / 2 : Nat) := (by have h := (slI_lenD (l := 0) (by decide) (St.rdO (i := 0) hS52 rfl).1 hv59.2); simpa using h.symm)
    have hS62 := St.pre (k := 0) hS52 rfl hv59.1 hv59.2 hv61
    clear hS52
    refine q_step (v := .slice b48 ((slI 2 (List.replicate (Int.toNat (np - ((0 : Int) - (0 : Int))) * 2) 0) 0 (0 : Int)).length / 2 : Nat) c54) hE58 (y_slicePre (s := 2) (by kernel_rfl) (fun _ => by kernel_rfl) rfl rfl hv59.1 (by omega) hv61) rfl rfl rfl ?_; intro a63 hE64; clear hE58
    refine q_step (v := .slice b48 ((slI 2 (List.replicate (Int.toNat (np - ((0 : Int) - (0 : Int))) * 2) 0) 0 (0 : Int)).length / 2 : Nat) c54) hE64 (y_assign rfl) rfl rfl rfl ?_; intro a65 hE66; clear hE64
    refine c_nil ?_
    have hE67 := hE66.sub (L' := [(0, .slice b48 ((slI 2 (List.replicate (Int.toNat (np - ((0 : Int) - (0 : Int))) * 2) 0) 0 (0 : Int)).length / 2 : Nat) c54)]) ⟨rfl, trivial⟩; clear hE66
    refine p_tn ?_
    refine c_seq ?_
    refine c_reg ?_
    refine q_step (v := .slice b48 ((slI 2 (List.replicate (Int.toNat (np - ((0 : Int) - (0 : Int))) * 2) 0) 0 (0 : Int)).length / 2 : Nat) c54) hE67 (y_move rfl) rfl rfl rfl ?_; intro a68 hE69; clear hE67
    refine q_step (v := .slice b48 ((slI 2 (List.replicate (Int.toNat (np - ((0 : Int) - (0 : Int))) * 2) 0) 0 (0 : Int)).length / 2 : Nat) c54) hE69 (y_assign rfl) rfl rfl rfl ?_; intro a70 hE71; clear hE69
    refine c_nil ?_
    have hE72 := hE71.sub (L' := [(4, .slice b48 ((slI 2 (List.replicate (Int.toNat (np - ((0 : Int) - (0 : Int))) * 2) 0) 0 (0 : Int)).length / 2 : Nat) c54)]) ⟨rfl, trivial⟩; clear hE71
    refine p_tn ?_
    refine wp_ret ?_
    have hF : F_z_GrowNode np = slI 2 (List.replicate (Int.toNat (np - ((0 : Int) - (0 : Int))) * 2) 0) 0 (0 : Int) := by unfold F_z_GrowNode; rw [ht35]; first | done | rfl
    refine c_ret1 hE72 rfl rfl ?_
    exact ⟨b48, c54, (by rw [hF]; first | done | (dsimp only; done) | rfl), (by rw [hF]; (try dsimp only); exact hS62.ok 0 _ rfl), hS62.ext⟩
   ·
    have hp73 := of_decide_eq_false ht35
    have hE74 := hE34; rw [ht35] at hE74; clear hE34
    refine wp_skip ?_
    refine p_tn ?_
    refine c_seq ?_
    refine c_reg ?_
    refine q_step (v := .slice none 0 0) hE74 (y_move rfl) rfl rfl rfl ?_; intro a75 hE76; clear hE74
    refine q_step (v := .slice none 0 0) hE76 (y_assign rfl) rfl rfl rfl ?_; intro a77 hE78; clear hE76
    refine c_nil ?_
    have hE79 := hE78.sub (L' := [(4, .slice none 0 0)]) ⟨rfl, trivial⟩; clear hE78
    refine p_tn ?_
    refine wp_ret ?_
    have hF : F_z_GrowNode np = [] := by unfold F_z_GrowNode; rw [ht35]; first | done | rfl
    refine c_ret1 hE79 rfl rfl ?_
    exact ⟨none, 0, (by rw [hF]; first | done | (dsimp only; done) | rfl), (by rw [hF]; (try dsimp only); exact OwnS.nilS _ _ _ _), hS.ext⟩
theorem d_GrowNode (n : Int) (w : World) (h0 : 0 ≤ n) (h1 : n ≤ 4294967296) :
    Calls Try.prog 148 #[.slice none 0 0, .int .i64 n] w (Ret fun v w' => ∃ b1 : Option Addr, ∃ c1 : Nat, v = .slice b1 ((([] : List Int)).length / 2 : Nat) c1 ∧ OwnS w' w.heap.size 94 2 b1 ((([] : List Int)).length / 2 : Nat) c1 [] ∧ Ext w w') := by
  have e : F_z_GrowNode n = [] := by
    unfold F_z_GrowNode
    cases decide (0 < n - ((0 : Nat) - (0 : Nat) : Int)) <;> simp [slI]
  have := c_z_GrowNode n w h0 h1
  rwa [e] at this
def F_z_ConcatNode_L1b (slices : List (List Int)) (rec : Int → Int → Int × Int) (size3 : Int) (t11 : Int) : Int × Int :=
  bif (decide (t11 < ((slices).length : Int))) then (rec (size3 + (((gL slices t11).length / 2 : Nat) : Int)) (t11 + 1)) else (size3, t11)
def F_z_ConcatNode_L1 (slices : List (List Int)) : Nat → Int → Int → Int × Int
  | 0, size3, t11 => (size3, t11)
  | r + 1, size3, t11 => F_z_ConcatNode_L1b slices (F_z_ConcatNode_L1 slices r) size3 t11
def F_z_ConcatNode_L2b (slices : List (List Int)) (rec : (List Int) → Int → (List Int) × Int) (newslice6L2 : List Int) (t27L2 : Int) : (List Int) × Int :=
  bif (decide (t27L2 < ((slices).length : Int))) then (rec (newslice6L2 ++ (gL slices t27L2)) (t27L2 + 1)) else (newslice6L2, t27L2)
def F_z_ConcatNode_L2 (slices : List (List Int)) : Nat → (List Int) → Int → (List Int) × Int
  | 0, newslice6L2, t27L2 => (newslice6L2, t27L2)
  | r + 1, newslice6L2, t27L2 => F_z_ConcatNode_L2b slices (F_z_ConcatNode_L2 slices r) newslice6L2 t27L2
def F_z_ConcatNode (slices : List (List Int)) : List Int :=
  (F_z_ConcatNode_L2 slices (Int.toNat (((slices).length : Int) - 0) + 1) ([] : List Int) 0).1
theorem cf_z_ConcatNode (args : Array Value) (w : World) : (callFunc 87 args).run Try.prog w = .ok (.enter 87 args) w := by kernel_rfl
set_option maxRecDepth 100000 in
theorem c_z_ConcatNode (slicesA : Option Addr) (slicesN slicesC : Nat) (slicesQ : List Hd) (slices : List (List Int)) (w : World) (slicesR : RdN w 2 slicesA slicesN slicesC slicesQ slices) (hl : slices.length ≤ 1000) (hx : ∀ m : Int, 0 ≤ m → m < (slices.length : Int) → (gL slices m).length ≤ 2097152) :
    Calls Try.prog 87 #[.slice slicesA slicesN slicesC] w (Ret fun v w' => ∃ b1 : Option Addr, ∃ c1 : Nat, v = .slice b1 ((F_z_ConcatNode slices).length / 2 : Nat) c1 ∧ OwnS w' w.heap.size 94 2 b1 ((F_z_ConcatNode slices).length / 2 : Nat) c1 (F_z_ConcatNode slices) ∧ Ext w w') := by
  obtain rfl : slicesN = slices.length := slicesR.len
  have slicesLe := slicesR.le
  have hS := St.nil w
  have hS1 := St.rdn0 hS rfl slicesR; clear hS
  refine enter (args := [.slice slicesA ((slices).length) slicesC]) Try.func87 rfl rfl ?_
  rw [Try.ntmps87]; intro a hE
  have hE := hE.sub (L' := [(0, .slice slicesA ((slices).length) slicesC)]) ⟨rfl, trivial⟩
  refine c_seq ?_
  refine c_reg ?_
  refine q_step (v := .slice none 0 0) hE (y_assign rfl) rfl rfl rfl ?_; intro a2 hE3; clear hE
  refine c_nil ?_
  have hE4 := hE3.sub (L' := [(0, .slice slicesA ((slices).length) slicesC)]) ⟨rfl, trivial⟩; clear hE3
  refine p_tn ?_
  refine c_seq ?_
  refine c_reg ?_
  refine q_step (v := .int .i64 0) hE4 (y_assign rfl) rfl rfl rfl ?_; intro a5 hE6; clear hE4
  refine c_nil ?_
  have hE7 := hE6.sub (L' := [(0, .slice slicesA ((slices).length) slicesC), (3, .int .i64 0)]) ⟨rfl, rfl, trivial⟩; clear hE6
  refine p_tn ?_
  refine c_seq ?_
  refine c_seq ?_
  refine c_reg ?_
  refine q_step (v := .slice slicesA ((slices).length) slicesC) hE7 (y_move rfl) rfl rfl rfl ?_; intro a8 hE9; clear hE7
  refine q_step (v := .int .i64 ((slices).length : Int)) hE9 (y_len (e := 32) (by kernel_rfl) rfl) rfl rfl rfl ?_; intro a10 hE11; clear hE9
  refine q_step (v := .int .i64 0) hE11 (y_move rfl) rfl rfl rfl ?_; intro a12 hE13; clear hE11
  refine c_nil ?_
  have hE14 := hE13.sub (L' := [(0, .slice slicesA ((slices).length) slicesC), (3, .int .i64 0), (9, .slice slicesA ((slices).length) slicesC), (10, .int .i64 ((slices).length : Int)), (11, .int .i64 0)]) ⟨rfl, rfl, rfl, rfl, rfl, trivial⟩; clear hE13
  refine p_tn ?_
  refine c_cut1 (fun a' w' => (0 ≤ ((F_z_ConcatNode_L1 slices (Int.toNat (((slices).length : Int) - 0) + 1) 0 0).2)) ∧ (0 ≤ ((F_z_ConcatNode_L1 slices (Int.toNat (((slices).length : Int) - 0) + 1) 0 0).1)) ∧ (((F_z_ConcatNode_L1 slices (Int.toNat (((slices).length : Int) - 0) + 1) 0 0).1) ≤ ((F_z_ConcatNode_L1 slices (Int.toNat (((slices).length : Int) - 0) + 1) 0 0).2) * 1048576) ∧ (((F_z_ConcatNode_L1 slices (Int.toNat (((slices).length : Int) - 0) + 1) 0 0).2) ≤ ((slices).length : Int)) ∧ E a' 36 [(0, .slice slicesA ((slices).length) slicesC), (3, .int .i64 ((F_z_ConcatNode_L1 slices (Int.toNat (((slices).length : Int) - 0) + 1) 0 0).1)), (9, .slice slicesA ((slices).length) slicesC), (10, .int .i64 ((slices).length : Int)), (11, .int .i64 ((F_z_ConcatNode_L1 slices (Int.toNat (((slices).length : Int) - 0) + 1) 0 0).2))] ∧ St w w' [.rdn 2 slicesA ((slices).length) slicesC slicesQ slices]) ?_ ?_
  ·
   refine wp_block ?_
   refine c_loop (fun r a' w' => ∃ size3 : Int, ∃ t11 : Int, F_z_ConcatNode_L1 slices r size3 t11 = F_z_ConcatNode_L1 slices (Int.toNat (((slices).length : Int) - 0) + 1) 0 0 ∧ Int.toNat (((slices).length : Int) - t11) < r ∧ (0 ≤ t11) ∧ (0 ≤ size3) ∧ (size3 ≤ t11 * 1048576) ∧ (t11 ≤ ((slices).length : Int)) ∧ E a' 36 [(0, .slice slicesA ((slices).length) slicesC), (3, .int .i64 size3), (9, .slice slicesA ((slices).length) slicesC), (10, .int .i64 ((slices).length : Int)), (11, .int .i64 t11)] ∧ St w w' [.rdn 2 slicesA ((slices).length) slicesC slicesQ slices]) (r := (Int.toNat (((slices).length : Int) - 0) + 1)) ?_ ?_
   · exact ⟨0, 0, rfl, Nat.lt_succ_self _, (by first | omega | (simp only [sS_len, sL_len]; omega) | (simp only [List.length_replicate, sI_len]; omega) | (simp only [List.length_append, List.length_cons, List.length_nil, sI_len, cond_true, cond_false]; omega) | (simp only [List.length_append, List.length_cons, List.length_nil, sI_len, cond_eq_ite, apply_ite List.length]; split <;> simp only [List.length_append, List.length_cons, List.length_nil, sI_len] <;> omega) | grind), (by first | omega | (simp only [sS_len, sL_len]; omega) | (simp only [List.length_replicate, sI_len]; omega) | (simp only [List.length_append, List.length_cons, List.length_nil, sI_len, cond_true, cond_false]; omega) | (simp only [List.length_append, List.length_cons, List.length_nil, sI_len, cond_eq_ite, apply_ite List.length]; split <;> simp only [List.length_append, List.length_cons, List.length_nil, sI_len] <;> omega) | grind), (by first | omega | (simp only [sS_len, sL_len]; omega) | (simp only [List.length_replicate, sI_len]; omega) | (simp only [List.length_append, List.length_cons, List.length_nil, sI_len, cond_true, cond_false]; omega) | (simp only [List.length_append, List.length_cons, List.length_nil, sI_len, cond_eq_ite, apply_ite List.length]; split <;> simp only [List.length_append, List.length_cons, List.length_nil, sI_len] <;> omega) | grind), (by first | omega | (simp only [sS_len, sL_len]; omega) | (simp only [List.length_replicate, sI_len]; omega) | (simp only [List.length_append, List.length_cons, List.length_nil, sI_len, cond_true, cond_false]; omega) | (simp only [List.length_append, List.length_cons, List.length_nil, sI_len, cond_eq_ite, apply_ite List.length]; split <;> simp only [List.length_append, List.length_cons, List.length_nil, sI_len] <;> omega) | grind), (hE14.sub (L' := [(0, .slice slicesA ((slices).length) slicesC), (3, .int .i64 0), (9, .slice slicesA ((slices).length) slicesC), (10, .int .i64 ((slices).length : Int)), (11, .int .i64 0)]) ⟨rfl, rfl, rfl, rfl, rfl, trivial⟩), (St.pick (Γ' := [.rdn 2 slicesA ((slices).length) slicesC slicesQ slices]) hS1 [0] (by decide) rfl)⟩
   ·
    clear hE14 hS1
    rintro r26 a16 w17 ⟨size3, t11, hT20, hr21, hi22, hi23, hi24, hi25, hE18, hS19⟩
    obtain ⟨r26, rfl⟩ : ∃ r', r26 = r' + 1 := ⟨r26 - 1, by omega⟩
    refine c_seq ?_
    refine c_reg ?_
    refine q_step (v := .bool (decide (t11 < ((slices).length : Int)))) hE18 (y_lss rfl rfl) rfl rfl rfl ?_; intro a27 hE28; clear hE18
    refine c_nil ?_
    have hE29 := hE28.sub (L' := [(0, .slice slicesA ((slices).length) slicesC), (3, .int .i64 size3), (9, .slice slicesA ((slices).length) slicesC), (10, .int .i64 ((slices).length : Int)), (11, .int .i64 t11), (12, .bool (decide (t11 < ((slices).length : Int))))]) ⟨rfl, rfl, rfl, rfl, rfl, rfl, trivial⟩; clear hE28
    refine p_tn ?_
    refine c_seq ?_
    refine c_cond hE29 rfl (fun ht30 => ?_) (fun ht30 => ?_)
    ·
     have hp31 := of_decide_eq_true ht30
     have hE32 := hE29; rw [ht30] at hE32; clear hE29
     have hx1 := hx t11 (by omega) (by omega)
     refine wp_skip ?_
     refine p_tn ?_
     refine c_seq ?_
     refine wp_block ?_
     refine c_seq ?_
     refine c_reg ?_
     refine q_step (v := .pointer (some (adr slicesA (Int.toNat t11)))) hE32 (y_idx (by kernel_rfl) (fun _ => by kernel_rfl) rfl rfl (RdN.isS (m := t11) (St.rdNr (i := 0) hS19 rfl) (by omega) (by omega)) (by omega) (by omega) (Nat.mul_one _).symm) rfl rfl rfl ?_; intro a33 hE34; clear hE32
     have hv35 : (0 : Int) ≤ t11 ∧ t11 < (((slices).length) : Int) := ⟨(by omega), (by omega)⟩
     refine q_step (v := .slice (hdA slicesQ t11) ((gL slices t11).length / 2 : Nat) (hdC slicesQ t11)) hE34 (y_load (fun _ => by kernel_rfl) rfl (RdN.eltD (St.rdNr (i := 0) hS19 rfl) (by decide) (by omega) (by omega))) rfl rfl rfl ?_; intro a37 hE38; clear hE34
     refine q_step (v := .slice (hdA slicesQ t11) ((gL slices t11).length / 2 : Nat) (hdC slicesQ t11)) hE38 (y_assign rfl) rfl rfl rfl ?_; intro a39 hE40; clear hE38
     refine c_nil ?_
     have hE41 := hE40.sub (L' := [(0, .slice slicesA ((slices).length) slicesC), (3, .int .i64 size3), (5, .slice (hdA slicesQ t11) ((gL slices t11).length / 2 : Nat) (hdC slicesQ t11)), (9, .slice slicesA ((slices).length) slicesC), (10, .int .i64 ((slices).length : Int)), (11, .int .i64 t11)]) ⟨rfl, rfl, rfl, rfl, rfl, rfl, trivial⟩; clear hE40
     refine p_tn ?_
     refine c_seq ?_
     refine c_reg ?_
     refine q_step (v := .int .i64 size3) hE41 (y_move rfl) rfl rfl rfl ?_; intro a42 hE43; clear hE41
     refine q_step (v := .slice (hdA slicesQ t11) ((gL slices t11).length / 2 : Nat) (hdC slicesQ t11)) hE43 (y_move rfl) rfl rfl rfl ?_; intro a44 hE45; clear hE43
     refine q_step (v := .int .i64 (((gL slices t11).length / 2 : Nat) : Int)) hE45 (y_len (e := 94) (by kernel_rfl) rfl) rfl rfl rfl ?_; intro a46 hE47; clear hE45
     refine q_step (v := .int .i64 (size3 + (((gL slices t11).length / 2 : Nat) : Int))) hE47 (y_add rfl rfl ⟨(by omega), (by omega)⟩) rfl rfl rfl ?_; intro a48 hE49; clear hE47
     refine q_step (v := .int .i64 (size3 + (((gL slices t11).length / 2 : Nat) : Int))) hE49 (y_assign rfl) rfl rfl rfl ?_; intro a50 hE51; clear hE49
     refine c_nil ?_
     have hE52 := hE51.sub (L' := [(0, .slice slicesA ((slices).length) slicesC), (3, .int .i64 (size3 + (((gL slices t11).length / 2 : Nat) : Int))), (9, .slice slicesA ((slices).length) slicesC), (10, .int .i64 ((slices).length : Int)), (11, .int .i64 t11)]) ⟨rfl, rfl, rfl, rfl, rfl, trivial⟩; clear hE51
     refine p_tn ?_
     refine c_seq ?_
     refine c_reg ?_
     refine q_step (v := .int .i64 (size3 + (((gL slices t11).length / 2 : Nat) : Int))) hE52 (y_move rfl) rfl rfl rfl ?_; intro a53 hE54; clear hE52
     refine q_step (v := .bool (decide ((size3 + (((gL slices t11).length / 2 : Nat) : Int)) < 0))) hE54 (y_lss rfl rfl) rfl rfl rfl ?_; intro a55 hE56; clear hE54
     refine c_nil ?_
     have hE57 := hE56.sub (L' := [(0, .slice slicesA ((slices).length) slicesC), (3, .int .i64 (size3 + (((gL slices t11).length / 2 : Nat) : Int))), (9, .slice slicesA ((slices).length) slicesC), (10, .int .i64 ((slices).length : Int)), (11, .int .i64 t11), (20, .bool (decide ((size3 + (((gL slices t11).length / 2 : Nat) : Int)) < 0)))]) ⟨rfl, rfl, rfl, rfl, rfl, rfl, trivial⟩; clear hE56
     refine p_tn ?_
     refine c_cond hE57 rfl (fun ht58 => ?_) (fun ht58 => ?_)
     ·
      have hp59 := of_decide_eq_true ht58
      exfalso; omega
     ·
      have hp60 := of_decide_eq_false ht58
      have hE61 := hE57; rw [ht58] at hE61; clear hE57
      refine wp_skip ?_
      refine p_bn ?_
      refine p_tn ?_
      refine c_reg ?_
      refine q_step (v := .int .i64 (t11 + 1)) hE61 (y_add rfl rfl ⟨(by omega), (by omega)⟩) rfl rfl rfl ?_; intro a62 hE63; clear hE61
      refine q_step (v := .int .i64 (t11 + 1)) hE63 (y_move rfl) rfl rfl rfl ?_; intro a64 hE65; clear hE63
      refine c_nil ?_
      have hE66 := hE65.sub (L' := [(0, .slice slicesA ((slices).length) slicesC), (3, .int .i64 (size3 + (((gL slices t11).length / 2 : Nat) : Int))), (9, .slice slicesA ((slices).length) slicesC), (10, .int .i64 ((slices).length : Int)), (11, .int .i64 (t11 + 1))]) ⟨rfl, rfl, rfl, rfl, rfl, trivial⟩; clear hE65
      refine p_tn ⟨r26, Nat.lt_succ_self _, size3 + (((gL slices t11).length / 2 : Nat) : Int), t11 + 1, (hT20.symm.trans (show F_z_ConcatNode_L1b slices (F_z_ConcatNode_L1 slices r26) size3 t11 = F_z_ConcatNode_L1 slices r26 (size3 + (((gL slices t11).length / 2 : Nat) : Int)) (t11 + 1) by unfold F_z_ConcatNode_L1b; rw [ht30]; first | done | rfl)).symm, (by omega), (by first | omega | (simp only [sS_len, sL_len]; omega) | (simp only [List.length_replicate, sI_len]; omega) | (simp only [List.length_append, List.length_cons, List.length_nil, sI_len, cond_true, cond_false]; omega) | (simp only [List.length_append, List.length_cons, List.length_nil, sI_len, cond_eq_ite, apply_ite List.length]; split <;> simp only [List.length_append, List.length_cons, List.length_nil, sI_len] <;> omega) | grind), (by first | omega | (simp only [sS_len, sL_len]; omega) | (simp only [List.length_replicate, sI_len]; omega) | (simp only [List.length_append, List.length_cons, List.length_nil, sI_len, cond_true, cond_false]; omega) | (simp only [List.length_append, List.length_cons, List.length_nil, sI_len, cond_eq_ite, apply_ite List.length]; split <;> simp only [List.length_append, List.length_cons, List.length_nil, sI_len] <;> omega) | grind), (by first | omega | (simp only [sS_len, sL_len]; omega) | (simp only [List.length_replicate, sI_len]; omega) | (simp only [List.length_append, List.length_cons, List.length_nil, sI_len, cond_true, cond_false]; omega) | (simp only [List.length_append, List.length_cons, List.length_nil, sI_len, cond_eq_ite, apply_ite List.length]; split <;> simp only [List.length_append, List.length_cons, List.length_nil, sI_len] <;> omega) | grind), (by first | omega | (simp only [sS_len, sL_len]; omega) | (simp only [List.length_replicate, sI_len]; omega) | (simp only [List.length_append, List.length_cons, List.length_nil, sI_len, cond_true, cond_false]; omega) | (simp only [List.length_append, List.length_cons, List.length_nil, sI_len, cond_eq_ite, apply_ite List.length]; split <;> simp only [List.length_append, List.length_cons, List.length_nil, sI_len] <;> omega) | grind), (hE66.sub (L' := [(0, .slice slicesA ((slices).length) slicesC), (3, .int .i64 (size3 + (((gL slices t11).length / 2 : Nat) : Int))), (9, .slice slicesA ((slices).length) slicesC), (10, .int .i64 ((slices).length : Int)), (11, .int .i64 (t11 + 1))]) ⟨rfl, rfl, rfl, rfl, rfl, trivial⟩), (St.pick (Γ' := [.rdn 2 slicesA ((slices).length) slicesC slicesQ slices]) hS19 [0] (by decide) rfl)⟩
    ·
     have hp67 := of_decide_eq_false ht30
     have hE68 := hE29; rw [ht30] at hE68; clear hE29
     refine wp_exit ?_
     refine p_te ?_
     have hX69 : F_z_ConcatNode_L1 slices (Int.toNat (((slices).length : Int) - 0) + 1) 0 0 = (size3, t11) := hT20.symm.trans (show F_z_ConcatNode_L1b slices (F_z_ConcatNode_L1 slices r26) size3 t11 = (size3, t11) by unfold F_z_ConcatNode_L1b; rw [ht30]; first | done | rfl)
     refine p_te (p_be (p_tn ?_))
     exact ⟨(by rw [hX69]; exact (show 0 ≤ t11 from (by first | omega | (simp only [sS_len, sL_len]; omega) | (simp only [List.length_replicate, sI_len]; omega) | (simp only [List.length_append, List.length_cons, List.length_nil, sI_len, cond_true, cond_false]; omega) | (simp only [List.length_append, List.length_cons, List.length_nil, sI_len, cond_eq_ite, apply_ite List.length]; split <;> simp only [List.length_append, List.length_cons, List.length_nil, sI_len] <;> omega) | grind))), (by rw [hX69]; exact (show 0 ≤ size3 from (by first | omega | (simp only [sS_len, sL_len]; omega) | (simp only [List.length_replicate, sI_len]; omega) | (simp only [List.length_append, List.length_cons, List.length_nil, sI_len, cond_true, cond_false]; omega) | (simp only [List.length_append, List.length_cons, List.length_nil, sI_len, cond_eq_ite, apply_ite List.length]; split <;> simp only [List.length_append, List.length_cons, List.length_nil, sI_len] <;> omega) | grind))), (by rw [hX69]; exact (show size3 ≤ t11 * 1048576 from (by first | omega | (simp only [sS_len, sL_len]; omega) | (simp only [List.length_replicate, sI_len]; omega) | (simp only [List.length_append, List.length_cons, List.length_nil, sI_len, cond_true, cond_false]; omega) | (simp only [List.length_append, List.length_cons, List.length_nil, sI_len, cond_eq_ite, apply_ite List.length]; split <;> simp only [List.length_append, List.length_cons, List.length_nil, sI_len] <;> omega) | grind))), (by rw [hX69]; exact (show t11 ≤ ((slices).length : Int) from (by first | omega | (simp only [sS_len, sL_len]; omega) | (simp only [List.length_replicate, sI_len]; omega) | (simp only [List.length_append, List.length_cons, List.length_nil, sI_len, cond_true, cond_false]; omega) | (simp only [List.length_append, List.length_cons, List.length_nil, sI_len, cond_eq_ite, apply_ite List.length]; split <;> simp only [List.length_append, List.length_cons, List.length_nil, sI_len] <;> omega) | grind))), (by rw [hX69]; exact (hE68.sub (L' := [(0, .slice slicesA ((slices).length) slicesC), (3, .int .i64 size3), (9, .slice slicesA ((slices).length) slicesC), (10, .int .i64 ((slices).length : Int)), (11, .int .i64 t11)]) ⟨rfl, rfl, rfl, rfl, rfl, trivial⟩)), (St.pick (Γ' := [.rdn 2 slicesA ((slices).length) slicesC slicesQ slices]) hS19 [0] (by decide) rfl)⟩
  ·
   rintro a70 w71 ⟨hi75, hi76, hi77, hi78, hE72, hS73⟩; clear hE14 hS1
   refine p_tn ?_
   refine c_seq ?_
   refine c_reg ?_
   refine q_step (v := .int .i64 ((F_z_ConcatNode_L1 slices (Int.toNat (((slices).length : Int) - 0) + 1) 0 0).1)) hE72 (y_move rfl) rfl rfl rfl ?_; intro a79 hE80; clear hE72
   refine l_step hE80 rfl (l_call (f := 148) (argv := [.slice none 0 0, .int .i64 ((F_z_ConcatNode_L1 slices (Int.toNat (((slices).length : Int) - 0) + 1) 0 0).1)]) hE80 (fun _ => cf_z_GrowNode _ _) rfl rfl (d_GrowNode ((F_z_ConcatNode_L1 slices (Int.toNat (((slices).length : Int) - 0) + 1) 0 0).1) w71 (by omega) (by omega)) ?_)
   rintro _ w82 ⟨b87, c88, rfl, ho89, he86⟩ a83 hE84; clear hE80
   have hS85 := St.own hS73 he86 ho89; clear hS73
   refine q_step (v := .slice b87 (([] : List Int).length / 2 : Nat) c88) hE84 (y_assign rfl) rfl rfl rfl ?_; intro a90 hE91; clear hE84
   refine c_nil ?_
   have hE92 := hE91.sub (L' := [(0, .slice slicesA ((slices).length) slicesC), (6, .slice b87 (([] : List Int).length / 2 : Nat) c88)]) ⟨rfl, rfl, trivial⟩; clear hE91
   refine p_tn ?_
   refine c_seq ?_
   refine c_seq ?_
   refine c_reg ?_
   refine q_step (v := .slice slicesA ((slices).length) slicesC) hE92 (y_move rfl) rfl rfl rfl ?_; intro a93 hE94; clear hE92
   refine q_step (v := .int .i64 ((slices).length : Int)) hE94 (y_len (e := 32) (by kernel_rfl) rfl) rfl rfl rfl ?_; intro a95 hE96; clear hE94
   refine q_step (v := .int .i64 0) hE96 (y_move rfl) rfl rfl rfl ?_; intro a97 hE98; clear hE96
   refine c_nil ?_
   have hE99 := hE98.sub (L' := [(6, .slice b87 (([] : List Int).length / 2 : Nat) c88), (25, .slice slicesA ((slices).length) slicesC), (26, .int .i64 ((slices).length : Int)), (27, .int .i64 0)]) ⟨rfl, rfl, rfl, rfl, trivial⟩; clear hE98
   refine p_tn ?_
   refine c_cut1 (fun a' w' => ∃ newslice6L2A_100 : Option Addr, ∃ newslice6L2C_100 : Nat, (0 ≤ ((F_z_ConcatNode_L2 slices (Int.toNat (((slices).length : Int) - 0) + 1) ([] : List Int) 0).2)) ∧ ((((F_z_ConcatNode_L2 slices (Int.toNat (((slices).length : Int) - 0) + 1) ([] : List Int) 0).1).length : Int) ≤ ((F_z_ConcatNode_L2 slices (Int.toNat (((slices).length : Int) - 0) + 1) ([] : List Int) 0).2) * 2097152) ∧ (((F_z_ConcatNode_L2 slices (Int.toNat (((slices).length : Int) - 0) + 1) ([] : List Int) 0).2) ≤ ((slices).length : Int)) ∧ E a' 36 [(6, .slice newslice6L2A_100 (((F_z_ConcatNode_L2 slices (Int.toNat (((slices).length : Int) - 0) + 1) ([] : List Int) 0).1).length / 2 : Nat) newslice6L2C_100), (25, .slice slicesA ((slices).length) slicesC), (26, .int .i64 ((slices).length : Int)), (27, .int .i64 ((F_z_ConcatNode_L2 slices (Int.toNat (((slices).length : Int) - 0) + 1) ([] : List Int) 0).2))] ∧ St w w' [.own 94 2 newslice6L2A_100 (((F_z_ConcatNode_L2 slices (Int.toNat (((slices).length : Int) - 0) + 1) ([] : List Int) 0).1).length / 2 : Nat) newslice6L2C_100 ((F_z_ConcatNode_L2 slices (Int.toNat (((slices).length : Int) - 0) + 1) ([] : List Int) 0).1), .rdn 2 slicesA ((slices).length) slicesC slicesQ slices]) ?_ ?_
   ·
    refine wp_block ?_
    refine c_loop (fun r a' w' => ∃ newslice6L2 : List Int, ∃ t27L2 : Int, ∃ newslice6L2A : Option Addr, ∃ newslice6L2C : Nat, F_z_ConcatNode_L2 slices r newslice6L2 t27L2 = F_z_ConcatNode_L2 slices (Int.toNat (((slices).length : Int) - 0) + 1) ([] : List Int) 0 ∧ Int.toNat (((slices).length : Int) - t27L2) < r ∧ (0 ≤ t27L2) ∧ ((newslice6L2.length : Int) ≤ t27L2 * 2097152) ∧ (t27L2 ≤ ((slices).length : Int)) ∧ E a' 36 [(6, .slice newslice6L2A ((newslice6L2).length / 2 : Nat) newslice6L2C), (25, .slice slicesA ((slices).length) slicesC), (26, .int .i64 ((slices).length : Int)), (27, .int .i64 t27L2)] ∧ St w w' [.own 94 2 newslice6L2A ((newslice6L2).length / 2 : Nat) newslice6L2C newslice6L2, .rdn 2 slicesA ((slices).length) slicesC slicesQ slices]) (r := (Int.toNat (((slices).length : Int) - 0) + 1)) ?_ ?_
    · exact ⟨([] : List Int), 0, b87, c88, rfl, Nat.lt_succ_self _, (by first | omega | (simp only [sS_len, sL_len]; omega) | (simp only [List.length_replicate, sI_len]; omega) | (simp only [List.length_append, List.length_cons, List.length_nil, sI_len, cond_true, cond_false]; omega) | (simp only [List.length_append, List.length_cons, List.length_nil, sI_len, cond_eq_ite, apply_ite List.length]; split <;> simp only [List.length_append, List.length_cons, List.length_nil, sI_len] <;> omega) | grind), (by first | omega | (simp only [sS_len, sL_len]; omega) | (simp only [List.length_replicate, sI_len]; omega) | (simp only [List.length_append, List.length_cons, List.length_nil, sI_len, cond_true, cond_false]; omega) | (simp only [List.length_append, List.length_cons, List.length_nil, sI_len, cond_eq_ite, apply_ite List.length]; split <;> simp only [List.length_append, List.length_cons, List.length_nil, sI_len] <;> omega) | grind), (by first | omega | (simp only [sS_len, sL_len]; omega) | (simp only [List.length_replicate, sI_len]; omega) | (simp only [List.length_append, List.length_cons, List.length_nil, sI_len, cond_true, cond_false]; omega) | (simp only [List.length_append, List.length_cons, List.length_nil, sI_len, cond_eq_ite, apply_ite List.length]; split <;> simp only [List.length_append, List.length_cons, List.length_nil, sI_len] <;> omega) | grind), (hE99.sub (L' := [(6, .slice b87 (([] : List Int).length / 2 : Nat) c88), (25, .slice slicesA ((slices).length) slicesC), (26, .int .i64 ((slices).length : Int)), (27, .int .i64 0)]) ⟨rfl, rfl, rfl, rfl, trivial⟩), (St.pick (Γ' := [.own 94 2 b87 (([] : List Int).length / 2 : Nat) c88 ([] : List Int), .rdn 2 slicesA ((slices).length) slicesC slicesQ slices]) hS85 [0, 1] (by decide) rfl)⟩
    ·
     clear hE99 hS85
     rintro r110 a101 w102 ⟨newslice6L2, t27L2, newslice6L2A, newslice6L2C, hT105, hr106, hi107, hi108, hi109, hE103, hS104⟩
     obtain ⟨r110, rfl⟩ : ∃ r', r110 = r' + 1 := ⟨r110 - 1, by omega⟩
     refine c_seq ?_
     refine c_reg ?_
     refine q_step (v := .bool (decide (t27L2 < ((slices).length : Int)))) hE103 (y_lss rfl rfl) rfl rfl rfl ?_; intro a111 hE112; clear hE103
     refine c_nil ?_
     have hE113 := hE112.sub (L' := [(6, .slice newslice6L2A ((newslice6L2).length / 2 : Nat) newslice6L2C), (25, .slice slicesA ((slices).length) slicesC), (26, .int .i64 ((slices).length : Int)), (27, .int .i64 t27L2), (28, .bool (decide (t27L2 < ((slices).length : Int))))]) ⟨rfl, rfl, rfl, rfl, rfl, trivial⟩; clear hE112
     refine p_tn ?_
     refine c_seq ?_
     refine c_cond hE113 rfl (fun ht114 => ?_) (fun ht114 => ?_)
     ·
      have hp115 := of_decide_eq_true ht114
      have hE116 := hE113; rw [ht114] at hE116; clear hE113
      have hx1 := hx t27L2 (by omega) (by omega)
      refine wp_skip ?_
      refine p_tn ?_
      refine c_seq ?_
      refine wp_block ?_
      refine c_seq ?_
      refine c_reg ?_
      refine q_step (v := .pointer (some (adr slicesA (Int.toNat t27L2)))) hE116 (y_idx (by kernel_rfl) (fun _ => by kernel_rfl) rfl rfl (RdN.isS (m := t27L2) (St.rdNr (i := 1) hS104 rfl) (by omega) (by omega)) (by omega) (by omega) (Nat.mul_one _).symm) rfl rfl rfl ?_; intro a117 hE118; clear hE116
      have hv119 : (0 : Int) ≤ t27L2 ∧ t27L2 < (((slices).length) : Int) := ⟨(by omega), (by omega)⟩
      refine q_step (v := .slice (hdA slicesQ t27L2) ((gL slices t27L2).length / 2 : Nat) (hdC slicesQ t27L2)) hE118 (y_load (fun _ => by kernel_rfl) rfl (RdN.eltD (St.rdNr (i := 1) hS104 rfl) (by decide) (by omega) (by omega))) rfl rfl rfl ?_; intro a121 hE122; clear hE118
      refine q_step (v := .slice (hdA slicesQ t27L2) ((gL slices t27L2).length / 2 : Nat) (hdC slicesQ t27L2)) hE122 (y_assign rfl) rfl rfl rfl ?_; intro a123 hE124; clear hE122
      refine c_nil ?_
      have hE125 := hE124.sub (L' := [(6, .slice newslice6L2A ((newslice6L2).length / 2 : Nat) newslice6L2C), (8, .slice (hdA slicesQ t27L2) ((gL slices t27L2).length / 2 : Nat) (hdC slicesQ t27L2)), (25, .slice slicesA ((slices).length) slicesC), (26, .int .i64 ((slices).length : Int)), (27, .int .i64 t27L2)]) ⟨rfl, rfl, rfl, rfl, rfl, trivial⟩; clear hE124
      refine p_tn ?_
      refine c_reg ?_
      refine q_step (v := .slice newslice6L2A ((newslice6L2).length / 2 : Nat) newslice6L2C) hE125 (y_move rfl) rfl rfl rfl ?_; intro a126 hE127; clear hE125
      refine q_step (v := .slice (hdA slicesQ t27L2) ((gL slices t27L2).length / 2 : Nat) (hdC slicesQ t27L2)) hE127 (y_move rfl) rfl rfl rfl ?_; intro a128 hE129; clear hE127
      obtain ⟨_, hi1, hi2, hi3, hi4⟩ := info_parts (show (Try.prog.info? 94).map (fun i => (i.zero, i.size, i.bytes)) = some (some (.agg #[.int .i64 0, .int .i64 0]), 2, 16) by kernel_rfl)
      refine l_step hE129 rfl (l_append (k := 0) (n' := ((newslice6L2 ++ (gL slices t27L2)).length / 2 : Nat)) hS104 hE129 (by kernel_rfl) hi1 hi2 hi3 rfl (by decide) (by rw [hi4]; decide) rfl rfl rfl (RdN.rowD (St.rdNr (i := 1) hS104 rfl) (by decide) hv119.1 hv119.2) (by first | omega | (simp only [List.length_append, List.length_cons, List.length_nil]; omega)) (by have h1 := (St.rdO (i := 0) hS104 rfl).1; have h2 := (RdN.rowD (St.rdNr (i := 1) hS104 rfl) (by decide) hv119.1 hv119.2).1; simp only [List.length_append, List.length_nil, List.length_cons] at h1 h2 ⊢; omega) rfl ?_)
      intro b130 c136 w131 hS134 a132 hE133; clear hS104 hE129 hi1 hi2 hi3 hi4
      refine q_step (v := .slice b130 ((newslice6L2 ++ (gL slices t27L2)).length / 2 : Nat) c136) hE133 (y_assign rfl) rfl rfl rfl ?_; intro a137 hE138; clear hE133
      refine c_nil ?_
      have hE139 := hE138.sub (L' := [(6, .slice b130 ((newslice6L2 ++ (gL slices t27L2)).length / 2 : Nat) c136), (25, .slice slicesA ((slices).length) slicesC), (26, .int .i64 ((slices).length : Int)), (27, .int .i64 t27L2)]) ⟨rfl, rfl, rfl, rfl, trivial⟩; clear hE138
      refine p_bn ?_
      refine p_tn ?_
      refine c_reg ?_
      refine q_step (v := .int .i64 (t27L2 + 1)) hE139 (y_add rfl rfl ⟨(by omega), (by omega)⟩) rfl rfl rfl ?_; intro a140 hE141; clear hE139
      refine q_step (v := .int .i64 (t27L2 + 1)) hE141 (y_move rfl) rfl rfl rfl ?_; intro a142 hE143; clear hE141
      refine c_nil ?_
      have hE144 := hE143.sub (L' := [(6, .slice b130 ((newslice6L2 ++ (gL slices t27L2)).length / 2 : Nat) c136), (25, .slice slicesA ((slices).length) slicesC), (26, .int .i64 ((slices).length : Int)), (27, .int .i64 (t27L2 + 1))]) ⟨rfl, rfl, rfl, rfl, trivial⟩; clear hE143
      refine p_tn ⟨r110, Nat.lt_succ_self _, newslice6L2 ++ (gL slices t27L2), t27L2 + 1, b130, c136, (hT105.symm.trans (show F_z_ConcatNode_L2b slices (F_z_ConcatNode_L2 slices r110) newslice6L2 t27L2 = F_z_ConcatNode_L2 slices r110 (newslice6L2 ++ (gL slices t27L2)) (t27L2 + 1) by unfold F_z_ConcatNode_L2b; rw [ht114]; first | done | rfl)).symm, (by omega), (by first | omega | (simp only [sS_len, sL_len]; omega) | (simp only [List.length_replicate, sI_len]; omega) | (simp only [List.length_append, List.length_cons, List.length_nil, sI_len, cond_true, cond_false]; omega) | (simp only [List.length_append, List.length_cons, List.length_nil, sI_len, cond_eq_ite, apply_ite List.length]; split <;> simp only [List.length_append, List.length_cons, List.length_nil, sI_len] <;> omega) | grind), (by first | omega | (simp only [sS_len, sL_len]; omega) | (simp only [List.length_replicate, sI_len]; omega) | (simp only [List.length_append, List.length_cons, List.length_nil, sI_len, cond_true, cond_false]; omega) | (simp only [List.length_append, List.length_cons, List.length_nil, sI_len, cond_eq_ite, apply_ite List.length]; split <;> simp only [List.length_append, List.length_cons, List.length_nil, sI_len] <;> omega) | grind), (by first | omega | (simp only [sS_len, sL_len]; omega) | (simp only [List.length_replicate, sI_len]; omega) | (simp only [List.length_append, List.length_cons, List.length_nil, sI_len, cond_true, cond_false]; omega) | (simp only [List.length_append, List.length_cons, List.length_nil, sI_len, cond_eq_ite, apply_ite List.length]; split <;> simp only [List.length_append, List.length_cons, List.length_nil, sI_len] <;> omega) | grind), (hE144.sub (L' := [(6, .slice b130 ((newslice6L2 ++ (gL slices t27L2)).length / 2 : Nat) c136), (25, .slice slicesA ((slices).length) slicesC), (26, .int .i64 ((slices).length : Int)), (27, .int .i64 (t27L2 + 1))]) ⟨rfl, rfl, rfl, rfl, trivial⟩), (St.pick (Γ' := [.own 94 2 b130 ((newslice6L2 ++ (gL slices t27L2)).length / 2 : Nat) c136 (newslice6L2 ++ (gL slices t27L2)), .rdn 2 slicesA ((slices).length) slicesC slicesQ slices]) hS134 [0, 1] (by decide) rfl)⟩
     ·
      have hp145 := of_decide_eq_false ht114
      have hE146 := hE113; rw [ht114] at hE146; clear hE113
      refine wp_exit ?_
      refine p_te ?_
      have hX147 : F_z_ConcatNode_L2 slices (Int.toNat (((slices).length : Int) - 0) + 1) ([] : List Int) 0 = (newslice6L2, t27L2) := hT105.symm.trans (show F_z_ConcatNode_L2b slices (F_z_ConcatNode_L2 slices r110) newslice6L2 t27L2 = (newslice6L2, t27L2) by unfold F_z_ConcatNode_L2b; rw [ht114]; first | done | rfl)
      refine p_te (p_be (p_tn ?_))
      exact ⟨newslice6L2A, newslice6L2C, (by rw [hX147]; exact (show 0 ≤ t27L2 from (by first | omega | (simp only [sS_len, sL_len]; omega) | (simp only [List.length_replicate, sI_len]; omega) | (simp only [List.length_append, List.length_cons, List.length_nil, sI_len, cond_true, cond_false]; omega) | (simp only [List.length_append, List.length_cons, List.length_nil, sI_len, cond_eq_ite, apply_ite List.length]; split <;> simp only [List.length_append, List.length_cons, List.length_nil, sI_len] <;> omega) | grind))), (by rw [hX147]; exact (show (newslice6L2.length : Int) ≤ t27L2 * 2097152 from (by first | omega | (simp only [sS_len, sL_len]; omega) | (simp only [List.length_replicate, sI_len]; omega) | (simp only [List.length_append, List.length_cons, List.length_nil, sI_len, cond_true, cond_false]; omega) | (simp only [List.length_append, List.length_cons, List.length_nil, sI_len, cond_eq_ite, apply_ite List.length]; split <;> simp only [List.length_append, List.length_cons, List.length_nil, sI_len] <;> omega) | grind))), (by rw [hX147]; exact (show t27L2 ≤ ((slices).length : Int) from (by first | omega | (simp only [sS_len, sL_len]; omega) | (simp only [List.length_replicate, sI_len]; omega) | (simp only [List.length_append, List.length_cons, List.length_nil, sI_len, cond_true, cond_false]; omega) | (simp only [List.length_append, List.length_cons, List.length_nil, sI_len, cond_eq_ite, apply_ite List.length]; split <;> simp only [List.length_append, List.length_cons, List.length_nil, sI_len] <;> omega) | grind))), (by rw [hX147]; exact (hE146.sub (L' := [(6, .slice newslice6L2A ((newslice6L2).length / 2 : Nat) newslice6L2C), (25, .slice slicesA ((slices).length) slicesC), (26, .int .i64 ((slices).length : Int)), (27, .int .i64 t27L2)]) ⟨rfl, rfl, rfl, rfl, trivial⟩)), (by rw [hX147]; exact (St.pick (Γ' := [.own 94 2 newslice6L2A ((newslice6L2).length / 2 : Nat) newslice6L2C newslice6L2, .rdn 2 slicesA ((slices).length) slicesC slicesQ slices]) hS104 [0, 1] (by decide) rfl))⟩
   ·
    rintro a148 w149 ⟨newslice6L2A_100, newslice6L2C_100, hi153, hi154, hi155, hE150, hS151⟩; clear hE99 hS85
    refine p_tn ?_
    refine c_seq ?_
    refine c_reg ?_
    refine q_step (v := .slice newslice6L2A_100 (((F_z_ConcatNode_L2 slices (Int.toNat (((slices).length : Int) - 0) + 1) ([] : List Int) 0).1).length / 2 : Nat) newslice6L2C_100) hE150 (y_move rfl) rfl rfl rfl ?_; intro a156 hE157; clear hE150
    refine q_step (v := .slice newslice6L2A_100 (((F_z_ConcatNode_L2 slices (Int.toNat (((slices).length : Int) - 0) + 1) ([] : List Int) 0).1).length / 2 : Nat) newslice6L2C_100) hE157 (y_assign rfl) rfl rfl rfl ?_; intro a158 hE159; clear hE157
    refine c_nil ?_
    have hE160 := hE159.sub (L' := [(2, .slice newslice6L2A_100 (((F_z_ConcatNode_L2 slices (Int.toNat (((slices).length : Int) - 0) + 1) ([] : List Int) 0).1).length / 2 : Nat) newslice6L2C_100)]) ⟨rfl, trivial⟩; clear hE159
    refine p_tn ?_
    refine wp_ret ?_
    have hF : F_z_ConcatNode slices = (F_z_ConcatNode_L2 slices (Int.toNat (((slices).length : Int) - 0) + 1) ([] : List Int) 0).1 := by unfold F_z_ConcatNode; rfl
    refine c_ret1 hE160 rfl rfl ?_
    exact ⟨newslice6L2A_100, newslice6L2C_100, (by rw [hF]; first | done | (dsimp only; done) | rfl), (by rw [hF]; (try dsimp only); exact hS151.ok 0 _ rfl), hS151.ext⟩
theorem rows_le2 {a b : List Int} {N : Nat} (ha : a.length ≤ N) (hb : b.length ≤ N) : ∀ m : Int, 0 ≤ m → m < (([a, b] : List (List Int)).length : Int) → (gL [a, b] m).length ≤ N := fun m h0 h1 => by
  have h2 : m < 2 := h1
  have : m = 0 ∨ m = 1 := by omega
  rcases this with rfl | rfl
  · exact ha
  · exact hb
theorem rows_le3 {a b c : List Int} {N : Nat} (ha : a.length ≤ N) (hb : b.length ≤ N) (hc : c.length ≤ N) : ∀ m : Int, 0 ≤ m → m < (([a, b, c] : List (List Int)).length : Int) → (gL [a, b, c] m).length ≤ N := fun m h0 h1 => by
  have h2 : m < 3 := h1
  have : m = 0 ∨ m = 1 ∨ m = 2 := by omega
  rcases this with rfl | rfl | rfl
  · exact ha
  · exact hb
  · exact hc
def F_l02False : List Int :=
  [1, 0]
theorem cf_l02False (args : Array Value) (w : World) : (callFunc 143 args).run Try.prog w = .ok (.enter 143 args) w := by kernel_rfl
set_option maxRecDepth 100000 in
theorem c_l02False  (w : World) :
    Calls Try.prog 143 #[] w (Ret fun v w' => ∃ b1 : Option Addr, ∃ c1 : Nat, v = .slice b1 ((F_l02False).length / 2 : Nat) c1 ∧ OwnS w' w.heap.size 94 2 b1 ((F_l02False).length / 2 : Nat) c1 F_l02False ∧ Ext w w') := by
  have hS := St.nil w
  refine enter (args := []) Try.func143 rfl rfl ?_
  rw [Try.ntmps143]; intro a hE
  have hE := hE.sub (L' := []) trivial
  refine c_seq ?_
  refine c_reg ?_
  refine q_step (v := .slice none 0 0) hE (y_assign rfl) rfl rfl rfl ?_; intro a1 hE2; clear hE
  refine c_nil ?_
  have hE3 := hE2.sub (L' := []) trivial; clear hE2
  refine p_tn ?_
  refine c_seq ?_
  refine c_reg ?_
  refine q_step (v := .agg #[.int .i64 1, .int .i64 0]) hE3 (y_build (vs := #[(0, .int .i64 1)]) (fun a n hE => by simp only [hE.eval (x := .const (.int .i64 1)) (v := .int .i64 1) rfl, List.map_toArray, List.map_cons, List.map_nil]) (fun _ => by kernel_rfl)) rfl rfl rfl ?_; intro a4 hE5; clear hE3
  refine l_step hE5 rfl (l_lit (e := 94) (s := 2) (xs := [1, 0]) (vs := [.agg #[.int .i64 1, .int .i64 0]]) hS hE5 rfl (fun _ => by kernel_rfl) rfl rfl rfl ?_)
  intro b6 w7 hS10 he11 a8 hE9; clear hS hE5
  refine q_step (v := .slice (some ⟨b6, 0, none⟩) 1 1) hE9 (y_assign rfl) rfl rfl rfl ?_; intro a12 hE13; clear hE9
  refine c_nil ?_
  have hE14 := hE13.sub (L' := [(0, .slice (some ⟨b6, 0, none⟩) 1 1)]) ⟨rfl, trivial⟩; clear hE13
  refine p_tn ?_
  refine wp_ret ?_
  have hF : F_l02False = [1, 0] := by unfold F_l02False; rfl
  refine c_ret1 hE14 rfl rfl ?_
  exact ⟨some ⟨b6, 0, none⟩, 1, (by rw [hF]; first | rfl | (rw [((St.rdO (i := 0) hS10 rfl).lenD (by decide))])), (by rw [hF, ((St.rdO (i := 0) hS10 rfl).lenD (by decide))]; (try dsimp only); exact hS10.ok 0 _ rfl), hS10.ext⟩
theorem l02False_len : F_l02False.length = 2 := rfl
theorem concat3 (a b c : List Int) : F_z_ConcatNode [a, b, c] = a ++ b ++ c := by
  show [] ++ a ++ b ++ c = a ++ b ++ c
  rfl
def F_join (kind : Int) (ap : List Int) (bp : List Int) : List Int :=
  F_z_ConcatNode ([[kind, 0], ap, bp])
theorem cf_join (args : Array Value) (w : World) : (callFunc 127 args).run Try.prog w = .ok (.enter 127 args) w := by kernel_rfl
set_option maxRecDepth 100000 in
theorem c_join (kind : Int) (apA : Option Addr) (apN apC : Nat) (ap : List Int) (bpA : Option Addr) (bpN bpC : Nat) (bp : List Int) (w : World) (apR : RdS w 2 apA apN apC ap) (bpR : RdS w 2 bpA bpN bpC bp) (hap : ap.length ≤ 1048576) (hbp : bp.length ≤ 1048576) :
    Calls Try.prog 127 #[.int .i64 kind, .slice apA apN apC, .slice bpA bpN bpC] w (Ret fun v w' => ∃ b1 : Option Addr, ∃ c1 : Nat, v = .slice b1 ((F_join kind ap bp).length / 2 : Nat) c1 ∧ OwnS w' w.heap.size 94 2 b1 ((F_join kind ap bp).length / 2 : Nat) c1 (F_join kind ap bp) ∧ Ext w w') := by
  obtain rfl : apN = ap.length / 2 := (apR.lenD (by decide)).symm
  have apEv := apR.ev (by decide)
  have apLe := apR.le
  obtain rfl : bpN = bp.length / 2 := (bpR.lenD (by decide)).symm
  have bpEv := bpR.ev (by decide)
  have bpLe := bpR.le
  have hS := St.nil w
  have hS1 := St.rd0 hS rfl apR; clear hS
  have hS2 := St.rd0 hS1 rfl bpR; clear hS1
  refine enter (args := [.int .i64 kind, .slice apA ((ap).length / 2 : Nat) apC, .slice bpA ((bp).length / 2 : Nat) bpC]) Try.func127 rfl rfl ?_
  rw [Try.ntmps127]; intro a hE
  have hE := hE.sub (L' := [(0, .int .i64 kind), (1, .slice apA ((ap).length / 2 : Nat) apC), (2, .slice bpA ((bp).length / 2 : Nat) bpC)]) ⟨rfl, rfl, rfl, trivial⟩
  refine c_seq ?_
  refine c_reg ?_
  refine q_step (v := .slice none 0 0) hE (y_assign rfl) rfl rfl rfl ?_; intro a3 hE4; clear hE
  refine c_nil ?_
  have hE5 := hE4.sub (L' := [(0, .int .i64 kind), (1, .slice apA ((ap).length / 2 : Nat) apC), (2, .slice bpA ((bp).length / 2 : Nat) bpC)]) ⟨rfl, rfl, rfl, trivial⟩; clear hE4
  refine p_tn ?_
  refine c_seq ?_
  refine c_reg ?_
  refine q_step (v := .int .i64 kind) hE5 (y_move rfl) rfl rfl rfl ?_; intro a6 hE7; clear hE5
  refine q_step (v := .agg #[.int .i64 kind, .int .i64 0]) hE7 (y_build (vs := #[(0, .int .i64 kind), (1, .int .i64 0)]) (fun a n hE => by simp only [hE.eval (x := .tmp 7) (v := .int .i64 kind) rfl, hE.eval (x := .const (.int .i64 0)) (v := .int .i64 0) rfl, List.map_toArray, List.map_cons, List.map_nil]) (fun _ => by kernel_rfl)) rfl rfl rfl ?_; intro a8 hE9; clear hE7
  refine l_step hE9 rfl (l_lit (e := 94) (s := 2) (xs := [kind, 0]) (vs := [.agg #[.int .i64 kind, .int .i64 0]]) hS2 hE9 rfl (fun _ => by kernel_rfl) rfl rfl rfl ?_)
  intro b10 w11 hS14 he15 a12 hE13; clear hS2 hE9
  refine q_step (v := .slice apA ((ap).length / 2 : Nat) apC) hE13 (y_move rfl) rfl rfl rfl ?_; intro a16 hE17; clear hE13
  refine q_step (v := .slice bpA ((bp).length / 2 : Nat) bpC) hE17 (y_move rfl) rfl rfl rfl ?_; intro a18 hE19; clear hE17
  have hS26 := St.freeze (i := 0) hS14 rfl; clear hS14
  refine l_step hE19 rfl (l_litN (e := 32) (s := 2) (rows := [(⟨some ⟨b10, 0, none⟩, 1, 1⟩, [kind, 0]), (⟨apA, ((ap).length / 2 : Nat), apC⟩, ap), (⟨bpA, ((bp).length / 2 : Nat), bpC⟩, bp)]) (hs := [⟨some ⟨b10, 0, none⟩, 1, 1⟩, ⟨apA, ((ap).length / 2 : Nat), apC⟩, ⟨bpA, ((bp).length / 2 : Nat), bpC⟩]) (xss := [[kind, 0], ap, bp]) (vs := [.slice (some ⟨b10, 0, none⟩) 1 1, .slice apA ((ap).length / 2 : Nat) apC, .slice bpA ((bp).length / 2 : Nat) bpC]) hS26 hE19 rfl rfl rfl rfl (fun _ => by kernel_rfl) ⟨⟨(St.rdR (i := 0) hS26 rfl), (St.robR (i := 0) hS26 rfl)⟩, ⟨(St.rdR (i := 2) hS26 rfl), (St.robR (i := 2) hS26 rfl)⟩, ⟨(St.rdR (i := 1) hS26 rfl), (St.robR (i := 1) hS26 rfl)⟩, trivial⟩ rfl rfl rfl ?_)
  intro b20 w21 hS24 he25 a22 hE23; clear hS26 hE19
  refine l_step hE23 rfl (l_call (f := 87) (argv := [.slice (some ⟨b20, 0, none⟩) 3 3]) hE23 (fun _ => cf_z_ConcatNode _ _) rfl rfl (c_z_ConcatNode (some ⟨b20, 0, none⟩) 3 3 ([⟨some ⟨b10, 0, none⟩, 1, 1⟩, ⟨apA, ((ap).length / 2 : Nat), apC⟩, ⟨bpA, ((bp).length / 2 : Nat), bpC⟩]) ([[kind, 0], ap, bp]) w21 (St.rdNo (i := 0) hS24 rfl) (by simp) (rows_le3 (by simp) (by omega) (by omega))) ?_)
  rintro _ w28 ⟨b33, c34, rfl, ho35, he32⟩ a29 hE30; clear hE23
  have hS31 := St.own hS24 he32 ho35; clear hS24
  refine q_step (v := .slice b33 ((F_z_ConcatNode ([[kind, 0], ap, bp])).length / 2 : Nat) c34) hE30 (y_assign rfl) rfl rfl rfl ?_; intro a36 hE37; clear hE30
  refine c_nil ?_
  have hE38 := hE37.sub (L' := [(6, .slice b33 ((F_z_ConcatNode ([[kind, 0], ap, bp])).length / 2 : Nat) c34)]) ⟨rfl, trivial⟩; clear hE37
  refine p_tn ?_
  refine wp_ret ?_
  have hF : F_join kind ap bp = F_z_ConcatNode ([[kind, 0], ap, bp]) := by unfold F_join; rfl
  refine c_ret1 hE38 rfl rfl ?_
  exact ⟨b33, c34, (by rw [hF]; first | done | (dsimp only; done) | rfl), (by rw [hF]; (try dsimp only); exact hS31.ok 0 _ rfl), hS31.ext⟩
theorem join_eq (k : Int) (a b : List Int) : F_join k a b = [k, 0] ++ a ++ b := by unfold F_join; rw [concat3]
theorem join_len (k : Int) (a b : List Int) : (F_join k a b).length = 2 + a.length + b.length := by rw [join_eq]; simp; omega
def F_l02Pair (kind : Int) (ap : List Int) (bp : List Int) : List Int :=
  (([kind, 0]) ++ ap) ++ bp
theorem cf_l02Pair (args : Array Value) (w : World) : (callFunc 128 args).run Try.prog w = .ok (.enter 128 args) w := by kernel_rfl
set_option maxRecDepth 100000 in
theorem c_l02Pair (kind : Int) (apA : Option Addr) (apN apC : Nat) (ap : List Int) (bpA : Option Addr) (bpN bpC : Nat) (bp : List Int) (w : World) (apR : RdS w 2 apA apN apC ap) (bpR : RdS w 2 bpA bpN bpC bp) (hap : ap.length ≤ 1048576) (hbp : bp.length ≤ 1048576) :
    Calls Try.prog 128 #[.int .i64 kind, .slice apA apN apC, .slice bpA bpN bpC] w (Ret fun v w' => ∃ b1 : Option Addr, ∃ c1 : Nat, v = .slice b1 ((F_l02Pair kind ap bp).length / 2 : Nat) c1 ∧ OwnS w' w.heap.size 94 2 b1 ((F_l02Pair kind ap bp).length / 2 : Nat) c1 (F_l02Pair kind ap bp) ∧ Ext w w') := by
  obtain rfl : apN = ap.length / 2 := (apR.lenD (by decide)).symm
  have apEv := apR.ev (by decide)
  have apLe := apR.le
  obtain rfl : bpN = bp.length / 2 := (bpR.lenD (by decide)).symm
  have bpEv := bpR.ev (by decide)
  have bpLe := bpR.le
  have hS := St.nil w
  have hS1 := St.rd0 hS rfl apR; clear hS
  have hS2 := St.rd0 hS1 rfl bpR; clear hS1
  refine enter (args := [.int .i64 kind, .slice apA ((ap).length / 2 : Nat) apC, .slice bpA ((bp).length / 2 : Nat) bpC]) Try.func128 rfl rfl ?_
  rw [Try.ntmps128]; intro a hE
  have hE := hE.sub (L' := [(0, .int .i64 kind), (1, .slice apA ((ap).length / 2 : Nat) apC), (2, .slice bpA ((bp).length / 2 : Nat) bpC)]) ⟨rfl, rfl, rfl, trivial⟩
  refine c_seq ?_
  refine c_reg ?_
  refine q_step (v := .slice none 0 0) hE (y_assign rfl) rfl rfl rfl ?_; intro a3 hE4; clear hE
  refine c_nil ?_
  have hE5 := hE4.sub (L' := [(0, .int .i64 kind), (1, .slice apA ((ap).length / 2 : Nat) apC), (2, .slice bpA ((bp).length / 2 : Nat) bpC)]) ⟨rfl, rfl, rfl, trivial⟩; clear hE4
  refine p_tn ?_
  refine c_seq ?_
  refine c_reg ?_
  refine q_step (v := .int .i64 kind) hE5 (y_move rfl) rfl rfl rfl ?_; intro a6 hE7; clear hE5
  refine q_step (v := .agg #[.int .i64 kind, .int .i64 0]) hE7 (y_build (vs := #[(0, .int .i64 kind)]) (fun a n hE => by simp only [hE.eval (x := .tmp 7) (v := .int .i64 kind) rfl, List.map_toArray, List.map_cons, List.map_nil]) (fun _ => by kernel_rfl)) rfl rfl rfl ?_; intro a8 hE9; clear hE7
  refine l_step hE9 rfl (l_lit (e := 94) (s := 2) (xs := [kind, 0]) (vs := [.agg #[.int .i64 kind, .int .i64 0]]) hS2 hE9 rfl (fun _ => by kernel_rfl) rfl rfl rfl ?_)
  intro b10 w11 hS14 he15 a12 hE13; clear hS2 hE9
  refine q_step (v := .slice apA ((ap).length / 2 : Nat) apC) hE13 (y_move rfl) rfl rfl rfl ?_; intro a16 hE17; clear hE13
  obtain ⟨_, hi1, hi2, hi3, hi4⟩ := info_parts (show (Try.prog.info? 94).map (fun i => (i.zero, i.size, i.bytes)) = some (some (.agg #[.int .i64 0, .int .i64 0]), 2, 16) by kernel_rfl)
  refine l_step hE17 rfl (l_append (k := 0) (n' := ((([kind, 0]) ++ ap).length / 2 : Nat)) hS14 hE17 (by kernel_rfl) hi1 hi2 hi3 rfl (by decide) (by rw [hi4]; decide) rfl rfl rfl (St.rdR (i := 2) hS14 rfl) (by first | omega | (simp only [List.length_append, List.length_cons, List.length_nil]; omega)) (by have h1 := (St.rdO (i := 0) hS14 rfl).1; have h2 := (St.rdR (i := 2) hS14 rfl).1; simp only [List.length_append, List.length_nil, List.length_cons] at h1 h2 ⊢; omega) rfl ?_)
  intro b18 c24 w19 hS22 a20 hE21; clear hS14 hE17 hi1 hi2 hi3 hi4
  refine q_step (v := .slice bpA ((bp).length / 2 : Nat) bpC) hE21 (y_move rfl) rfl rfl rfl ?_; intro a25 hE26; clear hE21
  obtain ⟨_, hi1, hi2, hi3, hi4⟩ := info_parts (show (Try.prog.info? 94).map (fun i => (i.zero, i.size, i.bytes)) = some (some (.agg #[.int .i64 0, .int .i64 0]), 2, 16) by kernel_rfl)
  refine l_step hE26 rfl (l_append (k := 0) (n' := (((([kind, 0]) ++ ap) ++ bp).length / 2 : Nat)) hS22 hE26 (by kernel_rfl) hi1 hi2 hi3 rfl (by decide) (by rw [hi4]; decide) rfl rfl rfl (St.rdR (i := 1) hS22 rfl) (by first | omega | (simp only [List.length_append, List.length_cons, List.length_nil]; omega)) (by have h1 := (St.rdO (i := 0) hS22 rfl).1; have h2 := (St.rdR (i := 1) hS22 rfl).1; simp only [List.length_append, List.length_nil, List.length_cons] at h1 h2 ⊢; omega) rfl ?_)
  intro b27 c33 w28 hS31 a29 hE30; clear hS22 hE26 hi1 hi2 hi3 hi4
  refine q_step (v := .slice b27 (((([kind, 0]) ++ ap) ++ bp).length / 2 : Nat) c33) hE30 (y_assign rfl) rfl rfl rfl ?_; intro a34 hE35; clear hE30
  refine c_nil ?_
  have hE36 := hE35.sub (L' := [(6, .slice b27 (((([kind, 0]) ++ ap) ++ bp).length / 2 : Nat) c33)]) ⟨rfl, trivial⟩; clear hE35
  refine p_tn ?_
  refine wp_ret ?_
  have hF : F_l02Pair kind ap bp = (([kind, 0]) ++ ap) ++ bp := by unfold F_l02Pair; rfl
  refine c_ret1 hE36 rfl rfl ?_
  exact ⟨b27, c33, (by rw [hF]; first | done | (dsimp only; done) | rfl), (by rw [hF]; (try dsimp only); exact hS31.ok 0 _ rfl), hS31.ext⟩
theorem l02Pair_len (k : Int) (a b : List Int) : (F_l02Pair k a b).length = 2 + a.length + b.length := by unfold F_l02Pair; simp; omega
theorem join_pair (k : Int) (a b : List Int) : F_join k a b = F_l02Pair k a b := by rw [join_eq]; rfl
def F_l02Pre (kind : Int) (ap : List Int) : List Int :=
  ([kind, 0]) ++ ap
theorem cf_l02Pre (args : Array Value) (w : World) : (callFunc 150 args).run Try.prog w = .ok (.enter 150 args) w := by kernel_rfl
set_option maxRecDepth 100000 in
theorem c_l02Pre (kind : Int) (apA : Option Addr) (apN apC : Nat) (ap : List Int) (w : World) (apR : RdS w 2 apA apN apC ap) (hap : ap.length ≤ 1048576) :
    Calls Try.prog 150 #[.int .i64 kind, .slice apA apN apC] w (Ret fun v w' => ∃ b1 : Option Addr, ∃ c1 : Nat, v = .slice b1 ((F_l02Pre kind ap).length / 2 : Nat) c1 ∧ OwnS w' w.heap.size 94 2 b1 ((F_l02Pre kind ap).length / 2 : Nat) c1 (F_l02Pre kind ap) ∧ Ext w w') := by
  obtain rfl : apN = ap.length / 2 := (apR.lenD (by decide)).symm
  have apEv := apR.ev (by decide)
  have apLe := apR.le
  have hS := St.nil w
  have hS1 := St.rd0 hS rfl apR; clear hS
  refine enter (args := [.int .i64 kind, .slice apA ((ap).length / 2 : Nat) apC]) Try.func150 rfl rfl ?_
  rw [Try.ntmps150]; intro a hE
  have hE := hE.sub (L' := [(0, .int .i64 kind), (1, .slice apA ((ap).length / 2 : Nat) apC)]) ⟨rfl, rfl, trivial⟩
  refine c_seq ?_
  refine c_reg ?_
  refine q_step (v := .slice none 0 0) hE (y_assign rfl) rfl rfl rfl ?_; intro a2 hE3; clear hE
  refine c_nil ?_
  have hE4 := hE3.sub (L' := [(0, .int .i64 kind), (1, .slice apA ((ap).length / 2 : Nat) apC)]) ⟨rfl, rfl, trivial⟩; clear hE3
  refine p_tn ?_
  refine c_seq ?_
  refine c_reg ?_
  refine q_step (v := .int .i64 kind) hE4 (y_move rfl) rfl rfl rfl ?_; intro a5 hE6; clear hE4
  refine q_step (v := .agg #[.int .i64 kind, .int .i64 0]) hE6 (y_build (vs := #[(0, .int .i64 kind)]) (fun a n hE => by simp only [hE.eval (x := .tmp 5) (v := .int .i64 kind) rfl, List.map_toArray, List.map_cons, List.map_nil]) (fun _ => by kernel_rfl)) rfl rfl rfl ?_; intro a7 hE8; clear hE6
  refine l_step hE8 rfl (l_lit (e := 94) (s := 2) (xs := [kind, 0]) (vs := [.agg #[.int .i64 kind, .int .i64 0]]) hS1 hE8 rfl (fun _ => by kernel_rfl) rfl rfl rfl ?_)
  intro b9 w10 hS13 he14 a11 hE12; clear hS1 hE8
  refine q_step (v := .slice apA ((ap).length / 2 : Nat) apC) hE12 (y_move rfl) rfl rfl rfl ?_; intro a15 hE16; clear hE12
  obtain ⟨_, hi1, hi2, hi3, hi4⟩ := info_parts (show (Try.prog.info? 94).map (fun i => (i.zero, i.size, i.bytes)) = some (some (.agg #[.int .i64 0, .int .i64 0]), 2, 16) by kernel_rfl)
  refine l_step hE16 rfl (l_append (k := 0) (n' := ((([kind, 0]) ++ ap).length / 2 : Nat)) hS13 hE16 (by kernel_rfl) hi1 hi2 hi3 rfl (by decide) (by rw [hi4]; decide) rfl rfl rfl (St.rdR (i := 1) hS13 rfl) (by first | omega | (simp only [List.length_append, List.length_cons, List.length_nil]; omega)) (by have h1 := (St.rdO (i := 0) hS13 rfl).1; have h2 := (St.rdR (i := 1) hS13 rfl).1; simp only [List.length_append, List.length_nil, List.length_cons] at h1 h2 ⊢; omega) rfl ?_)
  intro b17 c23 w18 hS21 a19 hE20; clear hS13 hE16 hi1 hi2 hi3 hi4
  refine q_step (v := .slice b17 ((([kind, 0]) ++ ap).length / 2 : Nat) c23) hE20 (y_assign rfl) rfl rfl rfl ?_; intro a24 hE25; clear hE20
  refine c_nil ?_
  have hE26 := hE25.sub (L' := [(4, .slice b17 ((([kind, 0]) ++ ap).length / 2 : Nat) c23)]) ⟨rfl, trivial⟩; clear hE25
  refine p_tn ?_
  refine wp_ret ?_
  have hF : F_l02Pre kind ap = ([kind, 0]) ++ ap := by unfold F_l02Pre; rfl
  refine c_ret1 hE26 rfl rfl ?_
  exact ⟨b17, c23, (by rw [hF]; first | done | (dsimp only; done) | rfl), (by rw [hF]; (try dsimp only); exact hS21.ok 0 _ rfl), hS21.ext⟩
theorem l02Pre_len (k : Int) (a : List Int) : (F_l02Pre k a).length = 2 + a.length := by unfold F_l02Pre; simp; omega
def F_l02Not (ap : List Int) : List Int :=
  F_l02Pair 4 ap F_l02False
theorem cf_l02Not (args : Array Value) (w : World) : (callFunc 82 args).run Try.prog w = .ok (.enter 82 args) w := by kernel_rfl
set_option maxRecDepth 100000 in
theorem c_l02Not (apA : Option Addr) (apN apC : Nat) (ap : List Int) (w : World) (apR : RdS w 2 apA apN apC ap) (hap : ap.length ≤ 1048576) :
    Calls Try.prog 82 #[.slice apA apN apC] w (Ret fun v w' => ∃ b1 : Option Addr, ∃ c1 : Nat, v = .slice b1 ((F_l02Not ap).length / 2 : Nat) c1 ∧ OwnS w' w.heap.size 94 2 b1 ((F_l02Not ap).length / 2 : Nat) c1 (F_l02Not ap) ∧ Ext w w') := by
  obtain rfl : apN = ap.length / 2 := (apR.lenD (by decide)).symm
  have apEv := apR.ev (by decide)
  have apLe := apR.le
  have hS := St.nil w
  have hS1 := St.rd0 hS rfl apR; clear hS
  refine enter (args := [.slice apA ((ap).length / 2 : Nat) apC]) Try.func82 rfl rfl ?_
  rw [Try.ntmps82]; intro a hE
  have hE := hE.sub (L' := [(0, .slice apA ((ap).length / 2 : Nat) apC)]) ⟨rfl, trivial⟩
  refine c_seq ?_
  refine c_reg ?_
  refine q_step (v := .slice none 0 0) hE (y_assign rfl) rfl rfl rfl ?_; intro a2 hE3; clear hE
  refine c_nil ?_
  have hE4 := hE3.sub (L' := [(0, .slice apA ((ap).length / 2 : Nat) apC)]) ⟨rfl, trivial⟩; clear hE3
  refine p_tn ?_
  refine c_seq ?_
  refine c_reg ?_
  refine q_step (v := .slice apA ((ap).length / 2 : Nat) apC) hE4 (y_move rfl) rfl rfl rfl ?_; intro a5 hE6; clear hE4
  refine l_step hE6 rfl (l_call (f := 143) (argv := []) hE6 (fun _ => cf_l02False _ _) rfl rfl (c_l02False w) ?_)
  rintro _ w8 ⟨b13, c14, rfl, ho15, he12⟩ a9 hE10; clear hE6
  have hf16 := l02False_len
  have hS11 := St.own hS1 he12 ho15; clear hS1
  refine l_step hE10 rfl (l_call (f := 128) (argv := [.int .i64 4, .slice apA ((ap).length / 2 : Nat) apC, .slice b13 ((F_l02False).length / 2 : Nat) c14]) hE10 (fun _ => cf_l02Pair _ _) rfl rfl (c_l02Pair 4 apA ((ap).length / 2 : Nat) apC ap b13 ((F_l02False).length / 2 : Nat) c14 F_l02False w8 (St.rdR (i := 1) hS11 rfl) (St.rdO (i := 0) hS11 rfl) (by omega) (by omega)) ?_)
  rintro _ w18 ⟨b23, c24, rfl, ho25, he22⟩ a19 hE20; clear hE10
  have hf26 := l02Pair_len 4 ap F_l02False
  have hS21 := St.own hS11 he22 ho25; clear hS11
  refine q_step (v := .slice b23 ((F_l02Pair 4 ap F_l02False).length / 2 : Nat) c24) hE20 (y_assign rfl) rfl rfl rfl ?_; intro a27 hE28; clear hE20
  refine c_nil ?_
  have hE29 := hE28.sub (L' := [(2, .slice b23 ((F_l02Pair 4 ap F_l02False).length / 2 : Nat) c24)]) ⟨rfl, trivial⟩; clear hE28
  refine p_tn ?_
  refine wp_ret ?_
  have hF : F_l02Not ap = F_l02Pair 4 ap F_l02False := by unfold F_l02Not; rfl
  refine c_ret1 hE29 rfl rfl ?_
  exact ⟨b23, c24, (by rw [hF]; first | done | (dsimp only; done) | rfl), (by rw [hF]; (try dsimp only); exact hS21.ok 0 _ rfl), hS21.ext⟩
theorem l02Not_len (a : List Int) : (F_l02Not a).length = 4 + a.length := by unfold F_l02Not; rw [l02Pair_len, l02False_len]; omega
end Go.Proofs.Ytkilkfhjfobcdaa
