/- GLNG: models and contracts, printed by wip/gen/gen.py -/
import Derived.Test.YtkilkfhjfobcdaaGNA
import Derived.Test.YtkilkfhjfobcdaaGRF
set_option linter.unusedVariables false
set_option linter.unusedSimpArgs false
namespace Go.Proofs.Ytkilkfhjfobcdaa
open Go.RowKit

def F_l_FnExactNegationNormal (ap : List Int) (positive : Bool) : Bool :=
  bif (decide ((F_l_szNodeS ap 1048576) < 0)) then true else (bif ((!(decide (((F_NegationNormal ap positive).1) = ((F_s_NegationNormal ap positive).1)))) || (!decide (((F_NegationNormal ap positive).2) = ((F_s_NegationNormal ap positive).2)))) then false else (bif (!(decide (ap = ap))) then false else (bif ((decide ((1 + (ap.length : Int)) < 0)) || ((!(decide (((F_NegationNormal ap positive).1) = ((F_s_NegationNormal ap positive).1)))) || (!decide (((F_NegationNormal ap positive).2) = ((F_s_NegationNormal ap positive).2))))) then false else (bif (decide ((F_l_heldNodeS (marked ((F_NegationNormal ap positive).1).length 1) 1) < 0)) then false else (bif (!decide ((F_l_heldNodeS (marked ((F_NegationNormal ap positive).1).length 1) 1) = (1 + (((F_NegationNormal ap positive).1).length : Int)))) then false else true)))))
theorem cf_l_FnExactNegationNormal (args : Array Value) (w : World) : (callFunc 8 args).run Try.prog w = .ok (.enter 8 args) w := by kernel_rfl
set_option maxRecDepth 100000 in
theorem c_l_FnExactNegationNormal (apA : Option Addr) (apN apC : Nat) (ap : List Int) (positive : Bool) (w : World) (apR : RdS w 2 apA apN apC ap) :
    Calls Try.prog 8 #[.slice apA apN apC, .bool positive] w (Ret fun v w' => v = .bool (F_l_FnExactNegationNormal ap positive) ∧ Ext w w') := by
  obtain rfl : apN = ap.length / 2 := (apR.lenD (by decide)).symm
  have apEv := apR.ev (by decide)
  have apLe := apR.le
  have hS := St.nil w
  have hS1 := St.rd0 hS rfl apR; clear hS
  refine enter (args := [.slice apA ((ap).length / 2 : Nat) apC, .bool positive]) Try.func8 rfl rfl ?_
  rw [Try.ntmps8]; intro a hE
  have hE := hE.sub (L' := [(0, .slice apA ((ap).length / 2 : Nat) apC), (1, .bool positive)]) ⟨rfl, rfl, trivial⟩
  refine c_seq ?_
  refine c_reg ?_
  refine q_step (v := .bool false) hE (y_assign rfl) rfl rfl rfl ?_; intro a2 hE3; clear hE
  refine c_nil ?_
  have hE4 := hE3.sub (L' := [(0, .slice apA ((ap).length / 2 : Nat) apC), (1, .bool positive)]) ⟨rfl, rfl, trivial⟩; clear hE3
  refine p_tn ?_
  refine c_seq ?_
  refine c_reg ?_
  refine q_step (v := .int .i64 1048576) hE4 (y_assign rfl) rfl rfl rfl ?_; intro a5 hE6; clear hE4
  refine c_nil ?_
  have hE7 := hE6.sub (L' := [(0, .slice apA ((ap).length / 2 : Nat) apC), (1, .bool positive), (5, .int .i64 1048576)]) ⟨rfl, rfl, rfl, trivial⟩; clear hE6
  refine p_tn ?_
  refine c_seq ?_
  refine c_reg ?_
  refine q_step (v := .slice apA ((ap).length / 2 : Nat) apC) hE7 (y_move rfl) rfl rfl rfl ?_; intro a8 hE9; clear hE7
  refine q_step (v := .int .i64 1048576) hE9 (y_move rfl) rfl rfl rfl ?_; intro a10 hE11; clear hE9
  refine l_step hE11 rfl (l_call (f := 20) (argv := [.slice apA ((ap).length / 2 : Nat) apC, .int .i64 1048576]) hE11 (fun _ => cf_l_szNodeS _ _) rfl rfl (c_l_szNodeS apA ((ap).length / 2 : Nat) apC ap 1048576 w (St.rdR (i := 0) hS1 rfl) (by first | omega | (simp only [marked_len]; omega) | (simp only [marked_len] at *; omega)) (by first | omega | (simp only [marked_len]; omega) | (simp only [marked_len] at *; omega))) ?_)
  rintro _ _ ⟨rfl, rfl⟩ a14 hE15; clear hE11
  refine q_step (v := .int .i64 (F_l_szNodeS ap 1048576)) hE15 (y_assign rfl) rfl rfl rfl ?_; intro a18 hE19; clear hE15
  refine c_nil ?_
  have hE20 := hE19.sub (L' := [(0, .slice apA ((ap).length / 2 : Nat) apC), (1, .bool positive), (5, .int .i64 (F_l_szNodeS ap 1048576))]) ⟨rfl, rfl, rfl, trivial⟩; clear hE19
  refine p_tn ?_
  refine c_seq ?_
  refine c_seq ?_
  refine c_reg ?_
  refine q_step (v := .int .i64 (F_l_szNodeS ap 1048576)) hE20 (y_move rfl) rfl rfl rfl ?_; intro a21 hE22; clear hE20
  refine q_step (v := .bool (decide ((F_l_szNodeS ap 1048576) < 0))) hE22 (y_lss rfl rfl) rfl rfl rfl ?_; intro a23 hE24; clear hE22
  refine c_nil ?_
  have hE25 := hE24.sub (L' := [(0, .slice apA ((ap).length / 2 : Nat) apC), (1, .bool positive), (20, .bool (decide ((F_l_szNodeS ap 1048576) < 0)))]) ⟨rfl, rfl, rfl, trivial⟩; clear hE24
  refine p_tn ?_
  refine c_cond hE25 rfl (fun ht26 => ?_) (fun ht26 => ?_)
  ·
   have hp27 := of_decide_eq_true ht26
   have hE28 := hE25; rw [ht26] at hE28; clear hE25
   refine c_seq ?_
   refine c_reg ?_
   refine q_step (v := .bool true) hE28 (y_assign rfl) rfl rfl rfl ?_; intro a29 hE30; clear hE28
   refine c_nil ?_
   have hE31 := hE30.sub (L' := [(4, .bool true)]) ⟨rfl, trivial⟩; clear hE30
   refine p_tn ?_
   refine wp_ret ?_
   refine p_tr ?_
   have hF : F_l_FnExactNegationNormal ap positive = true := by unfold F_l_FnExactNegationNormal; rw [ht26]; first | done | rfl
   refine c_ret1 hE31 rfl rfl ?_
   exact ⟨(by rw [hF]; first | done | (dsimp only; done) | rfl), hS1.ext⟩
  ·
   have hp32 := of_decide_eq_false ht26
   have hq33 := szNodeS_bound hp32
   have hE34 := hE25; rw [ht26] at hE34; clear hE25
   refine wp_skip ?_
   refine p_tn ?_
   refine c_seq ?_
   refine c_reg ?_
   refine q_step (v := .slice apA ((ap).length / 2 : Nat) apC) hE34 (y_move rfl) rfl rfl rfl ?_; intro a35 hE36; clear hE34
   refine l_step hE36 rfl (l_call (f := 22) (argv := [.slice apA ((ap).length / 2 : Nat) apC]) hE36 (fun _ => cf_l_toNodeS _ _) rfl rfl (d_l_toNodeS apA ((ap).length / 2 : Nat) apC ap w (St.rdR (i := 0) hS1 rfl) (by first | omega | (simp only [marked_len]; omega) | (simp only [marked_len] at *; omega))) ?_)
   rintro _ w38 ⟨b43, c44, rfl, ho45, he42⟩ a39 hE40; clear hE36
   have hS41 := St.own hS1 he42 ho45; clear hS1
   refine q_step (v := .bool positive) hE40 (y_move rfl) rfl rfl rfl ?_; intro a46 hE47; clear hE40
   refine l_step hE47 rfl (l_call (f := 33) (argv := [.slice b43 ((ap).length / 2 : Nat) c44, .bool positive]) hE47 (fun _ => cf_s_NegationNormal _ _) rfl rfl (c_s_NegationNormal b43 ((ap).length / 2 : Nat) c44 ap positive w38 (St.rdO (i := 0) hS41 rfl) (by first | omega | (simp only [marked_len]; omega) | (simp only [marked_len] at *; omega))) ?_)
   rintro _ w49 ⟨b54, c55, rfl, ho56, he53⟩ a50 hE51; clear hE47
   have hS52 := St.own hS41 he53 ho56; clear hS41
   refine q_step (v := .tuple #[.slice b54 (((F_s_NegationNormal ap positive).1).length / 2 : Nat) c55, .int .i64 ((F_s_NegationNormal ap positive).2)]) hE51 (y_move rfl) rfl rfl rfl ?_; intro a57 hE58; clear hE51
   refine q_step (v := .slice b54 (((F_s_NegationNormal ap positive).1).length / 2 : Nat) c55) hE58 (y_extract rfl rfl) rfl rfl rfl ?_; intro a59 hE60; clear hE58
   refine q_step (v := .int .i64 ((F_s_NegationNormal ap positive).2)) hE60 (y_extract rfl rfl) rfl rfl rfl ?_; intro a61 hE62; clear hE60
   refine q_step (v := .slice b54 (((F_s_NegationNormal ap positive).1).length / 2 : Nat) c55) hE62 (y_assign rfl) rfl rfl rfl ?_; intro a63 hE64; clear hE62
   refine q_step (v := .int .i64 ((F_s_NegationNormal ap positive).2)) hE64 (y_assign rfl) rfl rfl rfl ?_; intro a65 hE66; clear hE64
   refine c_nil ?_
   have hE67 := hE66.sub (L' := [(0, .slice apA ((ap).length / 2 : Nat) apC), (1, .bool positive), (6, .slice b54 (((F_s_NegationNormal ap positive).1).length / 2 : Nat) c55), (7, .int .i64 ((F_s_NegationNormal ap positive).2))]) ⟨rfl, rfl, rfl, rfl, trivial⟩; clear hE66
   refine p_tn ?_
   refine c_seq ?_
   refine c_reg ?_
   refine q_step (v := .slice apA ((ap).length / 2 : Nat) apC) hE67 (y_move rfl) rfl rfl rfl ?_; intro a68 hE69; clear hE67
   refine l_step hE69 rfl (l_call (f := 22) (argv := [.slice apA ((ap).length / 2 : Nat) apC]) hE69 (fun _ => cf_l_toNodeS _ _) rfl rfl (d_l_toNodeS apA ((ap).length / 2 : Nat) apC ap w49 (St.rdR (i := 2) hS52 rfl) (by first | omega | (simp only [marked_len]; omega) | (simp only [marked_len] at *; omega))) ?_)
   rintro _ w71 ⟨b76, c77, rfl, ho78, he75⟩ a72 hE73; clear hE69
   have hS74 := St.own hS52 he75 ho78; clear hS52
   refine q_step (v := .slice b76 ((ap).length / 2 : Nat) c77) hE73 (y_assign rfl) rfl rfl rfl ?_; intro a79 hE80; clear hE73
   refine c_nil ?_
   have hE81 := hE80.sub (L' := [(0, .slice apA ((ap).length / 2 : Nat) apC), (1, .bool positive), (6, .slice b54 (((F_s_NegationNormal ap positive).1).length / 2 : Nat) c55), (7, .int .i64 ((F_s_NegationNormal ap positive).2)), (8, .slice b76 ((ap).length / 2 : Nat) c77)]) ⟨rfl, rfl, rfl, rfl, rfl, trivial⟩; clear hE80
   refine p_tn ?_
   refine c_seq ?_
   refine c_reg ?_
   refine q_step (v := .slice b76 ((ap).length / 2 : Nat) c77) hE81 (y_move rfl) rfl rfl rfl ?_; intro a82 hE83; clear hE81
   refine q_step (v := .bool positive) hE83 (y_move rfl) rfl rfl rfl ?_; intro a84 hE85; clear hE83
   refine l_step hE85 rfl (l_call (f := 34) (argv := [.slice b76 ((ap).length / 2 : Nat) c77, .bool positive]) hE85 (fun _ => cf_NegationNormal _ _) rfl rfl (c_NegationNormal b76 ((ap).length / 2 : Nat) c77 ap positive w71 (St.rdO (i := 0) hS74 rfl) (by first | omega | (simp only [marked_len]; omega) | (simp only [marked_len] at *; omega))) ?_)
   rintro _ w87 ⟨b92, c93, rfl, ho94, he91⟩ a88 hE89; clear hE85
   have hf95 := NegationNormal_len ap positive
   have hS90 := St.own hS74 he91 ho94; clear hS74
   refine q_step (v := .tuple #[.slice b92 (((F_NegationNormal ap positive).1).length / 2 : Nat) c93, .int .i64 ((F_NegationNormal ap positive).2)]) hE89 (y_move rfl) rfl rfl rfl ?_; intro a96 hE97; clear hE89
   refine q_step (v := .slice b92 (((F_NegationNormal ap positive).1).length / 2 : Nat) c93) hE97 (y_extract rfl rfl) rfl rfl rfl ?_; intro a98 hE99; clear hE97
   refine q_step (v := .int .i64 ((F_NegationNormal ap positive).2)) hE99 (y_extract rfl rfl) rfl rfl rfl ?_; intro a100 hE101; clear hE99
   refine q_step (v := .slice b92 (((F_NegationNormal ap positive).1).length / 2 : Nat) c93) hE101 (y_assign rfl) rfl rfl rfl ?_; intro a102 hE103; clear hE101
   refine q_step (v := .int .i64 ((F_NegationNormal ap positive).2)) hE103 (y_assign rfl) rfl rfl rfl ?_; intro a104 hE105; clear hE103
   refine c_nil ?_
   have hE106 := hE105.sub (L' := [(0, .slice apA ((ap).length / 2 : Nat) apC), (1, .bool positive), (6, .slice b54 (((F_s_NegationNormal ap positive).1).length / 2 : Nat) c55), (7, .int .i64 ((F_s_NegationNormal ap positive).2)), (8, .slice b76 ((ap).length / 2 : Nat) c77), (9, .slice b92 (((F_NegationNormal ap positive).1).length / 2 : Nat) c93), (10, .int .i64 ((F_NegationNormal ap positive).2))]) ⟨rfl, rfl, rfl, rfl, rfl, rfl, rfl, trivial⟩; clear hE105
   refine p_tn ?_
   refine c_seq ?_
   refine c_cut (fun a' w' => E a' 101 [(0, .slice apA ((ap).length / 2 : Nat) apC), (1, .bool positive), (6, .slice b54 (((F_s_NegationNormal ap positive).1).length / 2 : Nat) c55), (7, .int .i64 ((F_s_NegationNormal ap positive).2)), (8, .slice b76 ((ap).length / 2 : Nat) c77), (9, .slice b92 (((F_NegationNormal ap positive).1).length / 2 : Nat) c93), (10, .int .i64 ((F_NegationNormal ap positive).2)), (44, .bool ((!(decide (((F_NegationNormal ap positive).1) = ((F_s_NegationNormal ap positive).1)))) || (!decide (((F_NegationNormal ap positive).2) = ((F_s_NegationNormal ap positive).2)))))] ∧ St w w' [.own 94 2 b92 (((F_NegationNormal ap positive).1).length / 2 : Nat) c93 ((F_NegationNormal ap positive).1), .own 94 2 b76 ((ap).length / 2 : Nat) c77 ap, .own 94 2 b54 (((F_s_NegationNormal ap positive).1).length / 2 : Nat) c55 ((F_s_NegationNormal ap positive).1), .own 94 2 b43 ((ap).length / 2 : Nat) c44 ap, .rd 2 apA ((ap).length / 2 : Nat) apC ap]) ?_ ?_
   ·
    refine c_reg ?_
    refine q_step (v := .slice b92 (((F_NegationNormal ap positive).1).length / 2 : Nat) c93) hE106 (y_move rfl) rfl rfl rfl ?_; intro a107 hE108; clear hE106
    refine q_step (v := .slice b54 (((F_s_NegationNormal ap positive).1).length / 2 : Nat) c55) hE108 (y_move rfl) rfl rfl rfl ?_; intro a109 hE110; clear hE108
    refine l_step hE110 rfl (l_call (f := 24) (argv := [.slice b92 (((F_NegationNormal ap positive).1).length / 2 : Nat) c93, .slice b54 (((F_s_NegationNormal ap positive).1).length / 2 : Nat) c55]) hE110 (fun _ => cf_l_eqNodeS _ _) rfl rfl (d_l_eqNodeS b92 (((F_NegationNormal ap positive).1).length / 2 : Nat) c93 ((F_NegationNormal ap positive).1) b54 (((F_s_NegationNormal ap positive).1).length / 2 : Nat) c55 ((F_s_NegationNormal ap positive).1) w87 (St.rdO (i := 0) hS90 rfl) (St.rdO (i := 2) hS90 rfl)) ?_)
    rintro _ w112 ⟨rfl, he116⟩ a113 hE114; clear hE110
    have hS115 := St.go hS90 he116; clear hS90
    refine q_step (v := .bool (!(decide (((F_NegationNormal ap positive).1) = ((F_s_NegationNormal ap positive).1))))) hE114 (y_not rfl) rfl rfl rfl ?_; intro a117 hE118; clear hE114
    refine q_step (v := .bool (!(decide (((F_NegationNormal ap positive).1) = ((F_s_NegationNormal ap positive).1))))) hE118 (y_move rfl) rfl rfl rfl ?_; intro a119 hE120; clear hE118
    rcases Bool.eq_false_or_eq_true (!(decide (((F_NegationNormal ap positive).1) = ((F_s_NegationNormal ap positive).1)))) with hb121 | hb121
    ·
     have hE122 := hE120; (try rw [hb121] at hE122); clear hE120
     have ht123 := bn_t hb121
     have hp124 := of_decide_eq_false ht123
     refine q_skip hE122 rfl rfl rfl ?_; intro a125 hE126; clear hE122
     refine q_skip hE126 rfl rfl rfl ?_; intro a127 hE128; clear hE126
     refine q_skip hE128 rfl rfl rfl ?_; intro a129 hE130; clear hE128
     refine q_step (v := .bool true) hE130 (y_pick (b := true) rfl rfl) rfl rfl rfl ?_; intro a131 hE132; clear hE130
     refine c_nil ?_
     have hE133 := hE132.sub (L' := [(0, .slice apA ((ap).length / 2 : Nat) apC), (1, .bool positive), (6, .slice b54 (((F_s_NegationNormal ap positive).1).length / 2 : Nat) c55), (7, .int .i64 ((F_s_NegationNormal ap positive).2)), (8, .slice b76 ((ap).length / 2 : Nat) c77), (9, .slice b92 (((F_NegationNormal ap positive).1).length / 2 : Nat) c93), (10, .int .i64 ((F_NegationNormal ap positive).2)), (44, .bool true)]) ⟨rfl, rfl, rfl, rfl, rfl, rfl, rfl, rfl, trivial⟩; clear hE132
     refine p_tn ?_
     have hE134 := hE133.sub (L' := [(0, .slice apA ((ap).length / 2 : Nat) apC), (1, .bool positive), (6, .slice b54 (((F_s_NegationNormal ap positive).1).length / 2 : Nat) c55), (7, .int .i64 ((F_s_NegationNormal ap positive).2)), (8, .slice b76 ((ap).length / 2 : Nat) c77), (9, .slice b92 (((F_NegationNormal ap positive).1).length / 2 : Nat) c93), (10, .int .i64 ((F_NegationNormal ap positive).2)), (44, .bool true)]) ⟨rfl, rfl, rfl, rfl, rfl, rfl, rfl, rfl, trivial⟩
     have hS135 := (St.pick (Γ' := [.own 94 2 b92 (((F_NegationNormal ap positive).1).length / 2 : Nat) c93 ((F_NegationNormal ap positive).1), .own 94 2 b76 ((ap).length / 2 : Nat) c77 ap, .own 94 2 b54 (((F_s_NegationNormal ap positive).1).length / 2 : Nat) c55 ((F_s_NegationNormal ap positive).1), .own 94 2 b43 ((ap).length / 2 : Nat) c44 ap, .rd 2 apA ((ap).length / 2 : Nat) apC ap]) hS115 [0, 1, 2, 3, 4] (by decide) rfl)
     exact ⟨(by rw [hb121]; exact hE134), hS135⟩
    ·
     have hE136 := hE120; (try rw [hb121] at hE136); clear hE120
     have ht137 := bn_f hb121
     have hp138 := of_decide_eq_true ht137
     refine q_step (v := .int .i64 ((F_NegationNormal ap positive).2)) hE136 (y_move rfl) rfl rfl rfl ?_; intro a139 hE140; clear hE136
     refine q_step (v := .int .i64 ((F_s_NegationNormal ap positive).2)) hE140 (y_move rfl) rfl rfl rfl ?_; intro a141 hE142; clear hE140
     refine q_step (v := .bool (!decide (((F_NegationNormal ap positive).2) = ((F_s_NegationNormal ap positive).2)))) hE142 (y_neq rfl rfl) rfl rfl rfl ?_; intro a143 hE144; clear hE142
     refine q_step (v := .bool (!decide (((F_NegationNormal ap positive).2) = ((F_s_NegationNormal ap positive).2)))) hE144 (y_pick (b := false) rfl rfl) rfl rfl rfl ?_; intro a145 hE146; clear hE144
     refine c_nil ?_
     have hE147 := hE146.sub (L' := [(0, .slice apA ((ap).length / 2 : Nat) apC), (1, .bool positive), (6, .slice b54 (((F_s_NegationNormal ap positive).1).length / 2 : Nat) c55), (7, .int .i64 ((F_s_NegationNormal ap positive).2)), (8, .slice b76 ((ap).length / 2 : Nat) c77), (9, .slice b92 (((F_NegationNormal ap positive).1).length / 2 : Nat) c93), (10, .int .i64 ((F_NegationNormal ap positive).2)), (44, .bool (!decide (((F_NegationNormal ap positive).2) = ((F_s_NegationNormal ap positive).2))))]) ⟨rfl, rfl, rfl, rfl, rfl, rfl, rfl, rfl, trivial⟩; clear hE146
     refine p_tn ?_
     have hE148 := hE147.sub (L' := [(0, .slice apA ((ap).length / 2 : Nat) apC), (1, .bool positive), (6, .slice b54 (((F_s_NegationNormal ap positive).1).length / 2 : Nat) c55), (7, .int .i64 ((F_s_NegationNormal ap positive).2)), (8, .slice b76 ((ap).length / 2 : Nat) c77), (9, .slice b92 (((F_NegationNormal ap positive).1).length / 2 : Nat) c93), (10, .int .i64 ((F_NegationNormal ap positive).2)), (44, .bool (!decide (((F_NegationNormal ap positive).2) = ((F_s_NegationNormal ap positive).2))))]) ⟨rfl, rfl, rfl, rfl, rfl, rfl, rfl, rfl, trivial⟩
     have hS149 := (St.pick (Γ' := [.own 94 2 b92 (((F_NegationNormal ap positive).1).length / 2 : Nat) c93 ((F_NegationNormal ap positive).1), .own 94 2 b76 ((ap).length / 2 : Nat) c77 ap, .own 94 2 b54 (((F_s_NegationNormal ap positive).1).length / 2 : Nat) c55 ((F_s_NegationNormal ap positive).1), .own 94 2 b43 ((ap).length / 2 : Nat) c44 ap, .rd 2 apA ((ap).length / 2 : Nat) apC ap]) hS115 [0, 1, 2, 3, 4] (by decide) rfl)
     exact ⟨(by rw [hb121]; exact hE148), hS149⟩
   ·
    rintro a150 w151 ⟨hE152, hS153⟩; clear hE106 hS90
    refine c_cond hE152 rfl (fun ht155 => ?_) (fun ht155 => ?_)
    ·
     have hE156 := hE152; rw [ht155] at hE156; clear hE152
     refine c_seq ?_
     refine c_reg ?_
     refine q_step (v := .bool false) hE156 (y_assign rfl) rfl rfl rfl ?_; intro a157 hE158; clear hE156
     refine c_nil ?_
     have hE159 := hE158.sub (L' := [(4, .bool false)]) ⟨rfl, trivial⟩; clear hE158
     refine p_tn ?_
     refine wp_ret ?_
     refine p_tr ?_
     have hF : F_l_FnExactNegationNormal ap positive = false := by unfold F_l_FnExactNegationNormal; rw [ht155, ht26]; first | done | rfl
     refine c_ret1 hE159 rfl rfl ?_
     exact ⟨(by rw [hF]; first | done | (dsimp only; done) | rfl), hS153.ext⟩
    ·
     obtain ⟨ht160, ht161⟩ := bor_f ht155
     have ht162 := bn_f ht160
     have hp163 := of_decide_eq_true ht162
     have ht164 := bn_f ht161
     have hp165 := of_decide_eq_true ht164
     have hE166 := hE152; rw [ht155] at hE166; clear hE152
     refine wp_skip ?_
     refine p_tn ?_
     refine c_seq ?_
     refine c_seq ?_
     refine c_reg ?_
     refine q_step (v := .slice b76 ((ap).length / 2 : Nat) c77) hE166 (y_move rfl) rfl rfl rfl ?_; intro a167 hE168; clear hE166
     refine q_step (v := .slice apA ((ap).length / 2 : Nat) apC) hE168 (y_move rfl) rfl rfl rfl ?_; intro a169 hE170; clear hE168
     refine l_step hE170 rfl (l_call (f := 22) (argv := [.slice apA ((ap).length / 2 : Nat) apC]) hE170 (fun _ => cf_l_toNodeS _ _) rfl rfl (d_l_toNodeS apA ((ap).length / 2 : Nat) apC ap w151 (St.rdR (i := 4) hS153 rfl) (by first | omega | (simp only [marked_len]; omega) | (simp only [marked_len] at *; omega))) ?_)
     rintro _ w172 ⟨b177, c178, rfl, ho179, he176⟩ a173 hE174; clear hE170
     have hS175 := St.own hS153 he176 ho179; clear hS153
     refine l_step hE174 rfl (l_call (f := 24) (argv := [.slice b76 ((ap).length / 2 : Nat) c77, .slice b177 ((ap).length / 2 : Nat) c178]) hE174 (fun _ => cf_l_eqNodeS _ _) rfl rfl (d_l_eqNodeS b76 ((ap).length / 2 : Nat) c77 ap b177 ((ap).length / 2 : Nat) c178 ap w172 (St.rdO (i := 2) hS175 rfl) (St.rdO (i := 0) hS175 rfl)) ?_)
     rintro _ w181 ⟨rfl, he185⟩ a182 hE183; clear hE174
     have hS184 := St.go hS175 he185; clear hS175
     refine q_step (v := .bool (!(decide (ap = ap)))) hE183 (y_not rfl) rfl rfl rfl ?_; intro a186 hE187; clear hE183
     refine c_nil ?_
     have hE188 := hE187.sub (L' := [(0, .slice apA ((ap).length / 2 : Nat) apC), (1, .bool positive), (6, .slice b54 (((F_s_NegationNormal ap positive).1).length / 2 : Nat) c55), (7, .int .i64 ((F_s_NegationNormal ap positive).2)), (8, .slice b76 ((ap).length / 2 : Nat) c77), (9, .slice b92 (((F_NegationNormal ap positive).1).length / 2 : Nat) c93), (10, .int .i64 ((F_NegationNormal ap positive).2)), (49, .bool (!(decide (ap = ap))))]) ⟨rfl, rfl, rfl, rfl, rfl, rfl, rfl, rfl, trivial⟩; clear hE187
     refine p_tn ?_
     refine c_cond hE188 rfl (fun ht189 => ?_) (fun ht189 => ?_)
     ·
      have ht190 := bn_t ht189
      have hp191 := of_decide_eq_false ht190
      have hE192 := hE188; rw [ht189] at hE192; clear hE188
      refine c_seq ?_
      refine c_reg ?_
      refine q_step (v := .bool false) hE192 (y_assign rfl) rfl rfl rfl ?_; intro a193 hE194; clear hE192
      refine c_nil ?_
      have hE195 := hE194.sub (L' := [(4, .bool false)]) ⟨rfl, trivial⟩; clear hE194
      refine p_tn ?_
      refine wp_ret ?_
      refine p_tr ?_
      have hF : F_l_FnExactNegationNormal ap positive = false := by unfold F_l_FnExactNegationNormal; rw [ht189, ht155, ht26]; first | done | rfl
      refine c_ret1 hE195 rfl rfl ?_
      exact ⟨(by rw [hF]; first | done | (dsimp only; done) | rfl), hS184.ext⟩
     ·
      have ht196 := bn_f ht189
      have hp197 := of_decide_eq_true ht196
      have hE198 := hE188; rw [ht189] at hE198; clear hE188
      refine wp_skip ?_
      refine p_tn ?_
      refine c_seq ?_
      refine c_reg ?_
      refine q_step (v := .int .i64 1) hE198 (y_assign rfl) rfl rfl rfl ?_; intro a199 hE200; clear hE198
      refine c_nil ?_
      have hE201 := hE200.sub (L' := [(0, .slice apA ((ap).length / 2 : Nat) apC), (1, .bool positive), (6, .slice b54 (((F_s_NegationNormal ap positive).1).length / 2 : Nat) c55), (7, .int .i64 ((F_s_NegationNormal ap positive).2)), (8, .slice b76 ((ap).length / 2 : Nat) c77), (9, .slice b92 (((F_NegationNormal ap positive).1).length / 2 : Nat) c93), (10, .int .i64 ((F_NegationNormal ap positive).2)), (11, .int .i64 1)]) ⟨rfl, rfl, rfl, rfl, rfl, rfl, rfl, rfl, trivial⟩; clear hE200
      refine p_tn ?_
      refine c_seq ?_
      refine c_reg ?_
      refine q_step (v := .slice b76 ((ap).length / 2 : Nat) c77) hE201 (y_move rfl) rfl rfl rfl ?_; intro a202 hE203; clear hE201
      refine q_step (v := .int .i64 1) hE203 (y_move rfl) rfl rfl rfl ?_; intro a204 hE205; clear hE203
      have hS212 := (St.pick (Γ' := [.own 94 2 b76 ((ap).length / 2 : Nat) c77 ap, .own 94 2 b177 ((ap).length / 2 : Nat) c178 ap, .own 94 2 b92 (((F_NegationNormal ap positive).1).length / 2 : Nat) c93 ((F_NegationNormal ap positive).1), .own 94 2 b54 (((F_s_NegationNormal ap positive).1).length / 2 : Nat) c55 ((F_s_NegationNormal ap positive).1), .own 94 2 b43 ((ap).length / 2 : Nat) c44 ap, .rd 2 apA ((ap).length / 2 : Nat) apC ap]) hS184 [2, 0, 1, 3, 4, 5] (by decide) rfl); clear hS184
      refine l_step hE205 rfl (l_call (f := 29) (argv := [.slice b76 ((ap).length / 2 : Nat) c77, .int .i64 1]) hE205 (fun _ => cf_l_markNodeS _ _) rfl rfl (d_l_markNodeS b76 ((ap).length / 2 : Nat) c77 ap 1 w181 w [.own 94 2 b177 ((ap).length / 2 : Nat) c178 ap, .own 94 2 b92 (((F_NegationNormal ap positive).1).length / 2 : Nat) c93 ((F_NegationNormal ap positive).1), .own 94 2 b54 (((F_s_NegationNormal ap positive).1).length / 2 : Nat) c55 ((F_s_NegationNormal ap positive).1), .own 94 2 b43 ((ap).length / 2 : Nat) c44 ap, .rd 2 apA ((ap).length / 2 : Nat) apC ap] hS212 (by first | omega | (simp only [marked_len]; omega) | (simp only [marked_len] at *; omega)) (by first | omega | (simp only [marked_len]; omega) | (simp only [marked_len] at *; omega)) (by first | omega | (simp only [marked_len]; omega) | (simp only [marked_len] at *; omega))) ?_)
      rintro _ w207 ⟨rfl, hS210⟩ a208 hE209; clear hE205 hS212
      refine q_step (v := .int .i64 (1 + (ap.length : Int))) hE209 (y_assign rfl) rfl rfl rfl ?_; intro a213 hE214; clear hE209
      refine c_nil ?_
      have hE215 := hE214.sub (L' := [(0, .slice apA ((ap).length / 2 : Nat) apC), (1, .bool positive), (6, .slice b54 (((F_s_NegationNormal ap positive).1).length / 2 : Nat) c55), (7, .int .i64 ((F_s_NegationNormal ap positive).2)), (9, .slice b92 (((F_NegationNormal ap positive).1).length / 2 : Nat) c93), (10, .int .i64 ((F_NegationNormal ap positive).2)), (11, .int .i64 (1 + (ap.length : Int)))]) ⟨rfl, rfl, rfl, rfl, rfl, rfl, rfl, trivial⟩; clear hE214
      refine p_tn ?_
      refine c_seq ?_
      refine c_cut (fun a' w' => E a' 101 [(0, .slice apA ((ap).length / 2 : Nat) apC), (1, .bool positive), (6, .slice b54 (((F_s_NegationNormal ap positive).1).length / 2 : Nat) c55), (7, .int .i64 ((F_s_NegationNormal ap positive).2)), (9, .slice b92 (((F_NegationNormal ap positive).1).length / 2 : Nat) c93), (65, .bool ((decide ((1 + (ap.length : Int)) < 0)) || ((!(decide (((F_NegationNormal ap positive).1) = ((F_s_NegationNormal ap positive).1)))) || (!decide (((F_NegationNormal ap positive).2) = ((F_s_NegationNormal ap positive).2))))))] ∧ St w w' [.own 94 2 b76 ((ap).length / 2 : Nat) c77 (marked ap.length 1), .own 94 2 b177 ((ap).length / 2 : Nat) c178 ap, .own 94 2 b92 (((F_NegationNormal ap positive).1).length / 2 : Nat) c93 ((F_NegationNormal ap positive).1), .own 94 2 b54 (((F_s_NegationNormal ap positive).1).length / 2 : Nat) c55 ((F_s_NegationNormal ap positive).1), .own 94 2 b43 ((ap).length / 2 : Nat) c44 ap, .rd 2 apA ((ap).length / 2 : Nat) apC ap]) ?_ ?_
      ·
       refine c_reg ?_
       refine q_step (v := .int .i64 (1 + (ap.length : Int))) hE215 (y_move rfl) rfl rfl rfl ?_; intro a216 hE217; clear hE215
       refine q_step (v := .bool (decide ((1 + (ap.length : Int)) < 0))) hE217 (y_lss rfl rfl) rfl rfl rfl ?_; intro a218 hE219; clear hE217
       refine q_step (v := .bool (decide ((1 + (ap.length : Int)) < 0))) hE219 (y_move rfl) rfl rfl rfl ?_; intro a220 hE221; clear hE219
       rcases Bool.eq_false_or_eq_true (decide ((1 + (ap.length : Int)) < 0)) with hb222 | hb222
       ·
        have hE223 := hE221; (try rw [hb222] at hE223); clear hE221
        have hp224 := of_decide_eq_true hb222
        refine q_skip hE223 rfl rfl rfl ?_; intro a225 hE226; clear hE223
        refine q_skip hE226 rfl rfl rfl ?_; intro a227 hE228; clear hE226
        refine q_skip hE228 rfl rfl rfl ?_; intro a229 hE230; clear hE228
        refine q_skip hE230 rfl rfl rfl ?_; intro a231 hE232; clear hE230
        refine q_step (v := .bool true) hE232 (y_pick (b := true) rfl rfl) rfl rfl rfl ?_; intro a233 hE234; clear hE232
        refine q_step (v := .bool true) hE234 (y_move rfl) rfl rfl rfl ?_; intro a235 hE236; clear hE234
        refine q_skip hE236 rfl rfl rfl ?_; intro a237 hE238; clear hE236
        refine q_skip hE238 rfl rfl rfl ?_; intro a239 hE240; clear hE238
        refine q_skip hE240 rfl rfl rfl ?_; intro a241 hE242; clear hE240
        refine q_step (v := .bool true) hE242 (y_pick (b := true) rfl rfl) rfl rfl rfl ?_; intro a243 hE244; clear hE242
        refine c_nil ?_
        have hE245 := hE244.sub (L' := [(0, .slice apA ((ap).length / 2 : Nat) apC), (1, .bool positive), (6, .slice b54 (((F_s_NegationNormal ap positive).1).length / 2 : Nat) c55), (7, .int .i64 ((F_s_NegationNormal ap positive).2)), (9, .slice b92 (((F_NegationNormal ap positive).1).length / 2 : Nat) c93), (65, .bool true)]) ⟨rfl, rfl, rfl, rfl, rfl, rfl, trivial⟩; clear hE244
        refine p_tn ?_
        have hE246 := hE245.sub (L' := [(0, .slice apA ((ap).length / 2 : Nat) apC), (1, .bool positive), (6, .slice b54 (((F_s_NegationNormal ap positive).1).length / 2 : Nat) c55), (7, .int .i64 ((F_s_NegationNormal ap positive).2)), (9, .slice b92 (((F_NegationNormal ap positive).1).length / 2 : Nat) c93), (65, .bool true)]) ⟨rfl, rfl, rfl, rfl, rfl, rfl, trivial⟩
        have hS247 := (St.pick (Γ' := [.own 94 2 b76 ((ap).length / 2 : Nat) c77 (marked ap.length 1), .own 94 2 b177 ((ap).length / 2 : Nat) c178 ap, .own 94 2 b92 (((F_NegationNormal ap positive).1).length / 2 : Nat) c93 ((F_NegationNormal ap positive).1), .own 94 2 b54 (((F_s_NegationNormal ap positive).1).length / 2 : Nat) c55 ((F_s_NegationNormal ap positive).1), .own 94 2 b43 ((ap).length / 2 : Nat) c44 ap, .rd 2 apA ((ap).length / 2 : Nat) apC ap]) hS210 [0, 1, 2, 3, 4, 5] (by decide) rfl)
        exact ⟨(by rw [hb222]; exact hE246), hS247⟩
       ·
        have hE248 := hE221; (try rw [hb222] at hE248); clear hE221
        have hp249 := of_decide_eq_false hb222
        refine q_step (v := .slice b92 (((F_NegationNormal ap positive).1).length / 2 : Nat) c93) hE248 (y_move rfl) rfl rfl rfl ?_; intro a250 hE251; clear hE248
        refine q_step (v := .slice b54 (((F_s_NegationNormal ap positive).1).length / 2 : Nat) c55) hE251 (y_move rfl) rfl rfl rfl ?_; intro a252 hE253; clear hE251
        refine l_step hE253 rfl (l_call (f := 24) (argv := [.slice b92 (((F_NegationNormal ap positive).1).length / 2 : Nat) c93, .slice b54 (((F_s_NegationNormal ap positive).1).length / 2 : Nat) c55]) hE253 (fun _ => cf_l_eqNodeS _ _) rfl rfl (d_l_eqNodeS b92 (((F_NegationNormal ap positive).1).length / 2 : Nat) c93 ((F_NegationNormal ap positive).1) b54 (((F_s_NegationNormal ap positive).1).length / 2 : Nat) c55 ((F_s_NegationNormal ap positive).1) w207 (St.rdO (i := 2) hS210 rfl) (St.rdO (i := 3) hS210 rfl)) ?_)
        rintro _ w255 ⟨rfl, he259⟩ a256 hE257; clear hE253
        have hS258 := St.go hS210 he259; clear hS210
        refine q_step (v := .bool (!(decide (((F_NegationNormal ap positive).1) = ((F_s_NegationNormal ap positive).1))))) hE257 (y_not rfl) rfl rfl rfl ?_; intro a260 hE261; clear hE257
        refine q_step (v := .bool (!(decide (((F_NegationNormal ap positive).1) = ((F_s_NegationNormal ap positive).1))))) hE261 (y_pick (b := false) rfl rfl) rfl rfl rfl ?_; intro a262 hE263; clear hE261
        refine q_step (v := .bool (!(decide (((F_NegationNormal ap positive).1) = ((F_s_NegationNormal ap positive).1))))) hE263 (y_move rfl) rfl rfl rfl ?_; intro a264 hE265; clear hE263
        rcases Bool.eq_false_or_eq_true (!(decide (((F_NegationNormal ap positive).1) = ((F_s_NegationNormal ap positive).1)))) with hb266 | hb266
        ·
         have hE267 := hE265; (try rw [hb266] at hE267); clear hE265
         have ht268 := bn_t hb266
         have hp269 := of_decide_eq_false ht268
         refine q_skip hE267 rfl rfl rfl ?_; intro a270 hE271; clear hE267
         refine q_skip hE271 rfl rfl rfl ?_; intro a272 hE273; clear hE271
         refine q_skip hE273 rfl rfl rfl ?_; intro a274 hE275; clear hE273
         refine q_step (v := .bool true) hE275 (y_pick (b := true) rfl rfl) rfl rfl rfl ?_; intro a276 hE277; clear hE275
         refine c_nil ?_
         have hE278 := hE277.sub (L' := [(0, .slice apA ((ap).length / 2 : Nat) apC), (1, .bool positive), (6, .slice b54 (((F_s_NegationNormal ap positive).1).length / 2 : Nat) c55), (7, .int .i64 ((F_s_NegationNormal ap positive).2)), (9, .slice b92 (((F_NegationNormal ap positive).1).length / 2 : Nat) c93), (65, .bool true)]) ⟨rfl, rfl, rfl, rfl, rfl, rfl, trivial⟩; clear hE277
         refine p_tn ?_
         have hE279 := hE278.sub (L' := [(0, .slice apA ((ap).length / 2 : Nat) apC), (1, .bool positive), (6, .slice b54 (((F_s_NegationNormal ap positive).1).length / 2 : Nat) c55), (7, .int .i64 ((F_s_NegationNormal ap positive).2)), (9, .slice b92 (((F_NegationNormal ap positive).1).length / 2 : Nat) c93), (65, .bool true)]) ⟨rfl, rfl, rfl, rfl, rfl, rfl, trivial⟩
         have hS280 := (St.pick (Γ' := [.own 94 2 b76 ((ap).length / 2 : Nat) c77 (marked ap.length 1), .own 94 2 b177 ((ap).length / 2 : Nat) c178 ap, .own 94 2 b92 (((F_NegationNormal ap positive).1).length / 2 : Nat) c93 ((F_NegationNormal ap positive).1), .own 94 2 b54 (((F_s_NegationNormal ap positive).1).length / 2 : Nat) c55 ((F_s_NegationNormal ap positive).1), .own 94 2 b43 ((ap).length / 2 : Nat) c44 ap, .rd 2 apA ((ap).length / 2 : Nat) apC ap]) hS258 [0, 1, 2, 3, 4, 5] (by decide) rfl)
         exact ⟨(by rw [hb266, hb222]; exact hE279), hS280⟩
        ·
         have hE281 := hE265; (try rw [hb266] at hE281); clear hE265
         have ht282 := bn_f hb266
         have hp283 := of_decide_eq_true ht282
         refine q_step (v := .int .i64 ((F_NegationNormal ap positive).2)) hE281 (y_move rfl) rfl rfl rfl ?_; intro a284 hE285; clear hE281
         refine q_step (v := .int .i64 ((F_s_NegationNormal ap positive).2)) hE285 (y_move rfl) rfl rfl rfl ?_; intro a286 hE287; clear hE285
         refine q_step (v := .bool (!decide (((F_NegationNormal ap positive).2) = ((F_s_NegationNormal ap positive).2)))) hE287 (y_neq rfl rfl) rfl rfl rfl ?_; intro a288 hE289; clear hE287
         refine q_step (v := .bool (!decide (((F_NegationNormal ap positive).2) = ((F_s_NegationNormal ap positive).2)))) hE289 (y_pick (b := false) rfl rfl) rfl rfl rfl ?_; intro a290 hE291; clear hE289
         refine c_nil ?_
         have hE292 := hE291.sub (L' := [(0, .slice apA ((ap).length / 2 : Nat) apC), (1, .bool positive), (6, .slice b54 (((F_s_NegationNormal ap positive).1).length / 2 : Nat) c55), (7, .int .i64 ((F_s_NegationNormal ap positive).2)), (9, .slice b92 (((F_NegationNormal ap positive).1).length / 2 : Nat) c93), (65, .bool (!decide (((F_NegationNormal ap positive).2) = ((F_s_NegationNormal ap positive).2))))]) ⟨rfl, rfl, rfl, rfl, rfl, rfl, trivial⟩; clear hE291
         refine p_tn ?_
         have hE293 := hE292.sub (L' := [(0, .slice apA ((ap).length / 2 : Nat) apC), (1, .bool positive), (6, .slice b54 (((F_s_NegationNormal ap positive).1).length / 2 : Nat) c55), (7, .int .i64 ((F_s_NegationNormal ap positive).2)), (9, .slice b92 (((F_NegationNormal ap positive).1).length / 2 : Nat) c93), (65, .bool (!decide (((F_NegationNormal ap positive).2) = ((F_s_NegationNormal ap positive).2))))]) ⟨rfl, rfl, rfl, rfl, rfl, rfl, trivial⟩
         have hS294 := (St.pick (Γ' := [.own 94 2 b76 ((ap).length / 2 : Nat) c77 (marked ap.length 1), .own 94 2 b177 ((ap).length / 2 : Nat) c178 ap, .own 94 2 b92 (((F_NegationNormal ap positive).1).length / 2 : Nat) c93 ((F_NegationNormal ap positive).1), .own 94 2 b54 (((F_s_NegationNormal ap positive).1).length / 2 : Nat) c55 ((F_s_NegationNormal ap positive).1), .own 94 2 b43 ((ap).length / 2 : Nat) c44 ap, .rd 2 apA ((ap).length / 2 : Nat) apC ap]) hS258 [0, 1, 2, 3, 4, 5] (by decide) rfl)
         exact ⟨(by rw [hb266, hb222]; exact hE293), hS294⟩
      ·
       rintro a295 w296 ⟨hE297, hS298⟩; clear hE215 hS210
       refine c_cond hE297 rfl (fun ht300 => ?_) (fun ht300 => ?_)
       ·
        have hE301 := hE297; rw [ht300] at hE301; clear hE297
        refine c_seq ?_
        refine c_reg ?_
        refine q_step (v := .bool false) hE301 (y_assign rfl) rfl rfl rfl ?_; intro a302 hE303; clear hE301
        refine c_nil ?_
        have hE304 := hE303.sub (L' := [(4, .bool false)]) ⟨rfl, trivial⟩; clear hE303
        refine p_tn ?_
        refine wp_ret ?_
        refine p_tr ?_
        have hF : F_l_FnExactNegationNormal ap positive = false := by unfold F_l_FnExactNegationNormal; rw [ht300, ht189, ht155, ht26]; first | done | rfl
        refine c_ret1 hE304 rfl rfl ?_
        exact ⟨(by rw [hF]; first | done | (dsimp only; done) | rfl), hS298.ext⟩
       ·
        obtain ⟨ht305, ht306⟩ := bor_f ht300
        have hp307 := of_decide_eq_false ht305
        obtain ⟨ht308, ht309⟩ := bor_f ht306
        have ht310 := bn_f ht308
        have hp311 := of_decide_eq_true ht310
        have ht312 := bn_f ht309
        have hp313 := of_decide_eq_true ht312
        have hE314 := hE297; rw [ht300] at hE314; clear hE297
        refine wp_skip ?_
        refine p_tn ?_
        refine c_seq ?_
        refine c_reg ?_
        refine q_step (v := .int .i64 1) hE314 (y_assign rfl) rfl rfl rfl ?_; intro a315 hE316; clear hE314
        refine c_nil ?_
        have hE317 := hE316.sub (L' := [(0, .slice apA ((ap).length / 2 : Nat) apC), (1, .bool positive), (6, .slice b54 (((F_s_NegationNormal ap positive).1).length / 2 : Nat) c55), (7, .int .i64 ((F_s_NegationNormal ap positive).2)), (9, .slice b92 (((F_NegationNormal ap positive).1).length / 2 : Nat) c93), (12, .int .i64 1)]) ⟨rfl, rfl, rfl, rfl, rfl, rfl, trivial⟩; clear hE316
        refine p_tn ?_
        refine c_seq ?_
        refine c_reg ?_
        refine q_step (v := .slice b92 (((F_NegationNormal ap positive).1).length / 2 : Nat) c93) hE317 (y_move rfl) rfl rfl rfl ?_; intro a318 hE319; clear hE317
        refine q_step (v := .int .i64 1) hE319 (y_move rfl) rfl rfl rfl ?_; intro a320 hE321; clear hE319
        have hS328 := (St.pick (Γ' := [.own 94 2 b92 (((F_NegationNormal ap positive).1).length / 2 : Nat) c93 ((F_NegationNormal ap positive).1), .own 94 2 b76 ((ap).length / 2 : Nat) c77 (marked ap.length 1), .own 94 2 b177 ((ap).length / 2 : Nat) c178 ap, .own 94 2 b54 (((F_s_NegationNormal ap positive).1).length / 2 : Nat) c55 ((F_s_NegationNormal ap positive).1), .own 94 2 b43 ((ap).length / 2 : Nat) c44 ap, .rd 2 apA ((ap).length / 2 : Nat) apC ap]) hS298 [2, 0, 1, 3, 4, 5] (by decide) rfl); clear hS298
        refine l_step hE321 rfl (l_call (f := 29) (argv := [.slice b92 (((F_NegationNormal ap positive).1).length / 2 : Nat) c93, .int .i64 1]) hE321 (fun _ => cf_l_markNodeS _ _) rfl rfl (d_l_markNodeS b92 (((F_NegationNormal ap positive).1).length / 2 : Nat) c93 ((F_NegationNormal ap positive).1) 1 w296 w [.own 94 2 b76 ((ap).length / 2 : Nat) c77 (marked ap.length 1), .own 94 2 b177 ((ap).length / 2 : Nat) c178 ap, .own 94 2 b54 (((F_s_NegationNormal ap positive).1).length / 2 : Nat) c55 ((F_s_NegationNormal ap positive).1), .own 94 2 b43 ((ap).length / 2 : Nat) c44 ap, .rd 2 apA ((ap).length / 2 : Nat) apC ap] hS328 (by first | omega | (simp only [marked_len]; omega) | (simp only [marked_len] at *; omega)) (by first | omega | (simp only [marked_len]; omega) | (simp only [marked_len] at *; omega)) (by first | omega | (simp only [marked_len]; omega) | (simp only [marked_len] at *; omega))) ?_)
        rintro _ w323 ⟨rfl, hS326⟩ a324 hE325; clear hE321 hS328
        refine q_step (v := .int .i64 (1 + (((F_NegationNormal ap positive).1).length : Int))) hE325 (y_assign rfl) rfl rfl rfl ?_; intro a329 hE330; clear hE325
        refine c_nil ?_
        have hE331 := hE330.sub (L' := [(0, .slice apA ((ap).length / 2 : Nat) apC), (1, .bool positive), (6, .slice b54 (((F_s_NegationNormal ap positive).1).length / 2 : Nat) c55), (7, .int .i64 ((F_s_NegationNormal ap positive).2)), (9, .slice b92 (((F_NegationNormal ap positive).1).length / 2 : Nat) c93), (12, .int .i64 (1 + (((F_NegationNormal ap positive).1).length : Int)))]) ⟨rfl, rfl, rfl, rfl, rfl, rfl, trivial⟩; clear hE330
        refine p_tn ?_
        refine c_seq ?_
        refine c_reg ?_
        refine q_step (v := .int .i64 1) hE331 (y_assign rfl) rfl rfl rfl ?_; intro a332 hE333; clear hE331
        refine c_nil ?_
        have hE334 := hE333.sub (L' := [(0, .slice apA ((ap).length / 2 : Nat) apC), (1, .bool positive), (6, .slice b54 (((F_s_NegationNormal ap positive).1).length / 2 : Nat) c55), (7, .int .i64 ((F_s_NegationNormal ap positive).2)), (9, .slice b92 (((F_NegationNormal ap positive).1).length / 2 : Nat) c93), (12, .int .i64 (1 + (((F_NegationNormal ap positive).1).length : Int))), (13, .int .i64 1)]) ⟨rfl, rfl, rfl, rfl, rfl, rfl, rfl, trivial⟩; clear hE333
        refine p_tn ?_
        refine c_seq ?_
        refine c_reg ?_
        refine q_step (v := .slice b92 (((F_NegationNormal ap positive).1).length / 2 : Nat) c93) hE334 (y_move rfl) rfl rfl rfl ?_; intro a335 hE336; clear hE334
        refine q_step (v := .int .i64 1) hE336 (y_move rfl) rfl rfl rfl ?_; intro a337 hE338; clear hE336
        refine l_step hE338 rfl (l_call (f := 30) (argv := [.slice b92 (((F_NegationNormal ap positive).1).length / 2 : Nat) c93, .int .i64 1]) hE338 (fun _ => cf_l_heldNodeS _ _) rfl rfl (c_l_heldNodeS b92 (((F_NegationNormal ap positive).1).length / 2 : Nat) c93 (marked ((F_NegationNormal ap positive).1).length 1) 1 w323 (St.rdO (i := 0) hS326 rfl) (by first | omega | (simp only [marked_len]; omega) | (simp only [marked_len] at *; omega)) (by first | omega | (simp only [marked_len]; omega) | (simp only [marked_len] at *; omega)) (by first | omega | (simp only [marked_len]; omega) | (simp only [marked_len] at *; omega))) ?_)
        rintro _ w340 ⟨rfl, he344⟩ a341 hE342; clear hE338
        have hS343 := St.go hS326 he344; clear hS326
        refine q_step (v := .int .i64 (F_l_heldNodeS (marked ((F_NegationNormal ap positive).1).length 1) 1)) hE342 (y_assign rfl) rfl rfl rfl ?_; intro a345 hE346; clear hE342
        refine c_nil ?_
        have hE347 := hE346.sub (L' := [(0, .slice apA ((ap).length / 2 : Nat) apC), (1, .bool positive), (6, .slice b54 (((F_s_NegationNormal ap positive).1).length / 2 : Nat) c55), (7, .int .i64 ((F_s_NegationNormal ap positive).2)), (9, .slice b92 (((F_NegationNormal ap positive).1).length / 2 : Nat) c93), (12, .int .i64 (1 + (((F_NegationNormal ap positive).1).length : Int))), (13, .int .i64 (F_l_heldNodeS (marked ((F_NegationNormal ap positive).1).length 1) 1))]) ⟨rfl, rfl, rfl, rfl, rfl, rfl, rfl, trivial⟩; clear hE346
        refine p_tn ?_
        refine c_seq ?_
        refine c_seq ?_
        refine c_reg ?_
        refine q_step (v := .int .i64 (F_l_heldNodeS (marked ((F_NegationNormal ap positive).1).length 1) 1)) hE347 (y_move rfl) rfl rfl rfl ?_; intro a348 hE349; clear hE347
        refine q_step (v := .bool (decide ((F_l_heldNodeS (marked ((F_NegationNormal ap positive).1).length 1) 1) < 0))) hE349 (y_lss rfl rfl) rfl rfl rfl ?_; intro a350 hE351; clear hE349
        refine c_nil ?_
        have hE352 := hE351.sub (L' := [(0, .slice apA ((ap).length / 2 : Nat) apC), (1, .bool positive), (6, .slice b54 (((F_s_NegationNormal ap positive).1).length / 2 : Nat) c55), (7, .int .i64 ((F_s_NegationNormal ap positive).2)), (9, .slice b92 (((F_NegationNormal ap positive).1).length / 2 : Nat) c93), (12, .int .i64 (1 + (((F_NegationNormal ap positive).1).length : Int))), (13, .int .i64 (F_l_heldNodeS (marked ((F_NegationNormal ap positive).1).length 1) 1)), (73, .bool (decide ((F_l_heldNodeS (marked ((F_NegationNormal ap positive).1).length 1) 1) < 0)))]) ⟨rfl, rfl, rfl, rfl, rfl, rfl, rfl, rfl, trivial⟩; clear hE351
        refine p_tn ?_
        refine c_cond hE352 rfl (fun ht353 => ?_) (fun ht353 => ?_)
        ·
         have hp354 := of_decide_eq_true ht353
         have hE355 := hE352; rw [ht353] at hE355; clear hE352
         refine c_seq ?_
         refine c_reg ?_
         refine q_step (v := .bool false) hE355 (y_assign rfl) rfl rfl rfl ?_; intro a356 hE357; clear hE355
         refine c_nil ?_
         have hE358 := hE357.sub (L' := [(4, .bool false)]) ⟨rfl, trivial⟩; clear hE357
         refine p_tn ?_
         refine wp_ret ?_
         refine p_tr ?_
         have hF : F_l_FnExactNegationNormal ap positive = false := by unfold F_l_FnExactNegationNormal; rw [ht353, ht300, ht189, ht155, ht26]; first | done | rfl
         refine c_ret1 hE358 rfl rfl ?_
         exact ⟨(by rw [hF]; first | done | (dsimp only; done) | rfl), hS343.ext⟩
        ·
         have hp359 := of_decide_eq_false ht353
         have hE360 := hE352; rw [ht353] at hE360; clear hE352
         refine wp_skip ?_
         refine p_tn ?_
         refine c_seq ?_
         refine c_seq ?_
         refine c_reg ?_
         refine q_step (v := .int .i64 (F_l_heldNodeS (marked ((F_NegationNormal ap positive).1).length 1) 1)) hE360 (y_move rfl) rfl rfl rfl ?_; intro a361 hE362; clear hE360
         refine q_step (v := .int .i64 (1 + (((F_NegationNormal ap positive).1).length : Int))) hE362 (y_move rfl) rfl rfl rfl ?_; intro a363 hE364; clear hE362
         refine q_step (v := .bool (!decide ((F_l_heldNodeS (marked ((F_NegationNormal ap positive).1).length 1) 1) = (1 + (((F_NegationNormal ap positive).1).length : Int))))) hE364 (y_neq rfl rfl) rfl rfl rfl ?_; intro a365 hE366; clear hE364
         refine c_nil ?_
         have hE367 := hE366.sub (L' := [(0, .slice apA ((ap).length / 2 : Nat) apC), (1, .bool positive), (6, .slice b54 (((F_s_NegationNormal ap positive).1).length / 2 : Nat) c55), (7, .int .i64 ((F_s_NegationNormal ap positive).2)), (9, .slice b92 (((F_NegationNormal ap positive).1).length / 2 : Nat) c93), (12, .int .i64 (1 + (((F_NegationNormal ap positive).1).length : Int))), (76, .bool (!decide ((F_l_heldNodeS (marked ((F_NegationNormal ap positive).1).length 1) 1) = (1 + (((F_NegationNormal ap positive).1).length : Int)))))]) ⟨rfl, rfl, rfl, rfl, rfl, rfl, rfl, trivial⟩; clear hE366
         refine p_tn ?_
         refine c_cond hE367 rfl (fun ht368 => ?_) (fun ht368 => ?_)
         ·
          have ht369 := bn_t ht368
          have hp370 := of_decide_eq_false ht369
          have hE371 := hE367; rw [ht368] at hE371; clear hE367
          refine c_seq ?_
          refine c_reg ?_
          refine q_step (v := .bool false) hE371 (y_assign rfl) rfl rfl rfl ?_; intro a372 hE373; clear hE371
          refine c_nil ?_
          have hE374 := hE373.sub (L' := [(4, .bool false)]) ⟨rfl, trivial⟩; clear hE373
          refine p_tn ?_
          refine wp_ret ?_
          refine p_tr ?_
          have hF : F_l_FnExactNegationNormal ap positive = false := by unfold F_l_FnExactNegationNormal; rw [ht368, ht353, ht300, ht189, ht155, ht26]; first | done | rfl
          refine c_ret1 hE374 rfl rfl ?_
          exact ⟨(by rw [hF]; first | done | (dsimp only; done) | rfl), hS343.ext⟩
         ·
          have ht375 := bn_f ht368
          have hp376 := of_decide_eq_true ht375
          have hE377 := hE367; rw [ht368] at hE377; clear hE367
          refine wp_skip ?_
          refine p_tn ?_
          refine c_seq ?_
          refine c_reg ?_
          refine q_step (v := .slice apA ((ap).length / 2 : Nat) apC) hE377 (y_move rfl) rfl rfl rfl ?_; intro a378 hE379; clear hE377
          refine l_step hE379 rfl (l_call (f := 22) (argv := [.slice apA ((ap).length / 2 : Nat) apC]) hE379 (fun _ => cf_l_toNodeS _ _) rfl rfl (d_l_toNodeS apA ((ap).length / 2 : Nat) apC ap w340 (St.rdR (i := 5) hS343 rfl) (by first | omega | (simp only [marked_len]; omega) | (simp only [marked_len] at *; omega))) ?_)
          rintro _ w381 ⟨b386, c387, rfl, ho388, he385⟩ a382 hE383; clear hE379
          have hS384 := St.own hS343 he385 ho388; clear hS343
          refine q_step (v := .bool positive) hE383 (y_move rfl) rfl rfl rfl ?_; intro a389 hE390; clear hE383
          refine l_step hE390 rfl (l_call (f := 34) (argv := [.slice b386 ((ap).length / 2 : Nat) c387, .bool positive]) hE390 (fun _ => cf_NegationNormal _ _) rfl rfl (c_NegationNormal b386 ((ap).length / 2 : Nat) c387 ap positive w381 (St.rdO (i := 0) hS384 rfl) (by first | omega | (simp only [marked_len]; omega) | (simp only [marked_len] at *; omega))) ?_)
          rintro _ w392 ⟨b397, c398, rfl, ho399, he396⟩ a393 hE394; clear hE390
          have hf400 := NegationNormal_len ap positive
          have hS395 := St.own hS384 he396 ho399; clear hS384
          refine q_step (v := .tuple #[.slice b397 (((F_NegationNormal ap positive).1).length / 2 : Nat) c398, .int .i64 ((F_NegationNormal ap positive).2)]) hE394 (y_move rfl) rfl rfl rfl ?_; intro a401 hE402; clear hE394
          refine q_step (v := .slice b397 (((F_NegationNormal ap positive).1).length / 2 : Nat) c398) hE402 (y_extract rfl rfl) rfl rfl rfl ?_; intro a403 hE404; clear hE402
          refine q_step (v := .int .i64 ((F_NegationNormal ap positive).2)) hE404 (y_extract rfl rfl) rfl rfl rfl ?_; intro a405 hE406; clear hE404
          refine q_step (v := .slice b397 (((F_NegationNormal ap positive).1).length / 2 : Nat) c398) hE406 (y_assign rfl) rfl rfl rfl ?_; intro a407 hE408; clear hE406
          refine q_step (v := .int .i64 ((F_NegationNormal ap positive).2)) hE408 (y_assign rfl) rfl rfl rfl ?_; intro a409 hE410; clear hE408
          refine c_nil ?_
          have hE411 := hE410.sub (L' := [(6, .slice b54 (((F_s_NegationNormal ap positive).1).length / 2 : Nat) c55), (7, .int .i64 ((F_s_NegationNormal ap positive).2)), (9, .slice b92 (((F_NegationNormal ap positive).1).length / 2 : Nat) c93), (12, .int .i64 (1 + (((F_NegationNormal ap positive).1).length : Int))), (14, .slice b397 (((F_NegationNormal ap positive).1).length / 2 : Nat) c398), (15, .int .i64 ((F_NegationNormal ap positive).2))]) ⟨rfl, rfl, rfl, rfl, rfl, rfl, trivial⟩; clear hE410
          refine p_tn ?_
          refine c_seq ?_
          refine c_cut (fun a' w' => E a' 101 [(9, .slice b92 (((F_NegationNormal ap positive).1).length / 2 : Nat) c93), (12, .int .i64 (1 + (((F_NegationNormal ap positive).1).length : Int))), (92, .bool ((!(decide (((F_NegationNormal ap positive).1) = ((F_s_NegationNormal ap positive).1)))) || (!decide (((F_NegationNormal ap positive).2) = ((F_s_NegationNormal ap positive).2)))))] ∧ St w w' [.own 94 2 b397 (((F_NegationNormal ap positive).1).length / 2 : Nat) c398 ((F_NegationNormal ap positive).1), .own 94 2 b386 ((ap).length / 2 : Nat) c387 ap, .own 94 2 b92 (((F_NegationNormal ap positive).1).length / 2 : Nat) c93 (marked ((F_NegationNormal ap positive).1).length 1), .own 94 2 b76 ((ap).length / 2 : Nat) c77 (marked ap.length 1), .own 94 2 b177 ((ap).length / 2 : Nat) c178 ap, .own 94 2 b54 (((F_s_NegationNormal ap positive).1).length / 2 : Nat) c55 ((F_s_NegationNormal ap positive).1), .own 94 2 b43 ((ap).length / 2 : Nat) c44 ap, .rd 2 apA ((ap).length / 2 : Nat) apC ap]) ?_ ?_
          ·
           refine c_reg ?_
           refine q_step (v := .slice b397 (((F_NegationNormal ap positive).1).length / 2 : Nat) c398) hE411 (y_move rfl) rfl rfl rfl ?_; intro a412 hE413; clear hE411
           refine q_step (v := .slice b54 (((F_s_NegationNormal ap positive).1).length / 2 : Nat) c55) hE413 (y_move rfl) rfl rfl rfl ?_; intro a414 hE415; clear hE413
           refine l_step hE415 rfl (l_call (f := 24) (argv := [.slice b397 (((F_NegationNormal ap positive).1).length / 2 : Nat) c398, .slice b54 (((F_s_NegationNormal ap positive).1).length / 2 : Nat) c55]) hE415 (fun _ => cf_l_eqNodeS _ _) rfl rfl (d_l_eqNodeS b397 (((F_NegationNormal ap positive).1).length / 2 : Nat) c398 ((F_NegationNormal ap positive).1) b54 (((F_s_NegationNormal ap positive).1).length / 2 : Nat) c55 ((F_s_NegationNormal ap positive).1) w392 (St.rdO (i := 0) hS395 rfl) (St.rdO (i := 5) hS395 rfl)) ?_)
           rintro _ w417 ⟨rfl, he421⟩ a418 hE419; clear hE415
           have hS420 := St.go hS395 he421; clear hS395
           refine q_step (v := .bool (!(decide (((F_NegationNormal ap positive).1) = ((F_s_NegationNormal ap positive).1))))) hE419 (y_not rfl) rfl rfl rfl ?_; intro a422 hE423; clear hE419
           refine q_step (v := .bool (!(decide (((F_NegationNormal ap positive).1) = ((F_s_NegationNormal ap positive).1))))) hE423 (y_move rfl) rfl rfl rfl ?_; intro a424 hE425; clear hE423
           rcases Bool.eq_false_or_eq_true (!(decide (((F_NegationNormal ap positive).1) = ((F_s_NegationNormal ap positive).1)))) with hb426 | hb426
           ·
            have hE427 := hE425; (try rw [hb426] at hE427); clear hE425
            have ht428 := bn_t hb426
            have hp429 := of_decide_eq_false ht428
            refine q_skip hE427 rfl rfl rfl ?_; intro a430 hE431; clear hE427
            refine q_skip hE431 rfl rfl rfl ?_; intro a432 hE433; clear hE431
            refine q_skip hE433 rfl rfl rfl ?_; intro a434 hE435; clear hE433
            refine q_step (v := .bool true) hE435 (y_pick (b := true) rfl rfl) rfl rfl rfl ?_; intro a436 hE437; clear hE435
            refine c_nil ?_
            have hE438 := hE437.sub (L' := [(9, .slice b92 (((F_NegationNormal ap positive).1).length / 2 : Nat) c93), (12, .int .i64 (1 + (((F_NegationNormal ap positive).1).length : Int))), (92, .bool true)]) ⟨rfl, rfl, rfl, trivial⟩; clear hE437
            refine p_tn ?_
            have hE439 := hE438.sub (L' := [(9, .slice b92 (((F_NegationNormal ap positive).1).length / 2 : Nat) c93), (12, .int .i64 (1 + (((F_NegationNormal ap positive).1).length : Int))), (92, .bool true)]) ⟨rfl, rfl, rfl, trivial⟩
            have hS440 := (St.pick (Γ' := [.own 94 2 b397 (((F_NegationNormal ap positive).1).length / 2 : Nat) c398 ((F_NegationNormal ap positive).1), .own 94 2 b386 ((ap).length / 2 : Nat) c387 ap, .own 94 2 b92 (((F_NegationNormal ap positive).1).length / 2 : Nat) c93 (marked ((F_NegationNormal ap positive).1).length 1), .own 94 2 b76 ((ap).length / 2 : Nat) c77 (marked ap.length 1), .own 94 2 b177 ((ap).length / 2 : Nat) c178 ap, .own 94 2 b54 (((F_s_NegationNormal ap positive).1).length / 2 : Nat) c55 ((F_s_NegationNormal ap positive).1), .own 94 2 b43 ((ap).length / 2 : Nat) c44 ap, .rd 2 apA ((ap).length / 2 : Nat) apC ap]) hS420 [0, 1, 2, 3, 4, 5, 6, 7] (by decide) rfl)
            exact ⟨(by rw [hb426]; exact hE439), hS440⟩
           ·
            have hE441 := hE425; (try rw [hb426] at hE441); clear hE425
            have ht442 := bn_f hb426
            have hp443 := of_decide_eq_true ht442
            refine q_step (v := .int .i64 ((F_NegationNormal ap positive).2)) hE441 (y_move rfl) rfl rfl rfl ?_; intro a444 hE445; clear hE441
            refine q_step (v := .int .i64 ((F_s_NegationNormal ap positive).2)) hE445 (y_move rfl) rfl rfl rfl ?_; intro a446 hE447; clear hE445
            refine q_step (v := .bool (!decide (((F_NegationNormal ap positive).2) = ((F_s_NegationNormal ap positive).2)))) hE447 (y_neq rfl rfl) rfl rfl rfl ?_; intro a448 hE449; clear hE447
            refine q_step (v := .bool (!decide (((F_NegationNormal ap positive).2) = ((F_s_NegationNormal ap positive).2)))) hE449 (y_pick (b := false) rfl rfl) rfl rfl rfl ?_; intro a450 hE451; clear hE449
            refine c_nil ?_
            have hE452 := hE451.sub (L' := [(9, .slice b92 (((F_NegationNormal ap positive).1).length / 2 : Nat) c93), (12, .int .i64 (1 + (((F_NegationNormal ap positive).1).length : Int))), (92, .bool (!decide (((F_NegationNormal ap positive).2) = ((F_s_NegationNormal ap positive).2))))]) ⟨rfl, rfl, rfl, trivial⟩; clear hE451
            refine p_tn ?_
            have hE453 := hE452.sub (L' := [(9, .slice b92 (((F_NegationNormal ap positive).1).length / 2 : Nat) c93), (12, .int .i64 (1 + (((F_NegationNormal ap positive).1).length : Int))), (92, .bool (!decide (((F_NegationNormal ap positive).2) = ((F_s_NegationNormal ap positive).2))))]) ⟨rfl, rfl, rfl, trivial⟩
            have hS454 := (St.pick (Γ' := [.own 94 2 b397 (((F_NegationNormal ap positive).1).length / 2 : Nat) c398 ((F_NegationNormal ap positive).1), .own 94 2 b386 ((ap).length / 2 : Nat) c387 ap, .own 94 2 b92 (((F_NegationNormal ap positive).1).length / 2 : Nat) c93 (marked ((F_NegationNormal ap positive).1).length 1), .own 94 2 b76 ((ap).length / 2 : Nat) c77 (marked ap.length 1), .own 94 2 b177 ((ap).length / 2 : Nat) c178 ap, .own 94 2 b54 (((F_s_NegationNormal ap positive).1).length / 2 : Nat) c55 ((F_s_NegationNormal ap positive).1), .own 94 2 b43 ((ap).length / 2 : Nat) c44 ap, .rd 2 apA ((ap).length / 2 : Nat) apC ap]) hS420 [0, 1, 2, 3, 4, 5, 6, 7] (by decide) rfl)
            exact ⟨(by rw [hb426]; exact hE453), hS454⟩
          ·
           rintro a455 w456 ⟨hE457, hS458⟩; clear hE411 hS395
           have hE460 := hE457; rw [ht155] at hE460; clear hE457
           refine c_false hE460 rfl ?_
           refine wp_skip ?_
           refine p_tn ?_
           refine c_seq ?_
           refine c_reg ?_
           refine q_step (v := .int .i64 1) hE460 (y_assign rfl) rfl rfl rfl ?_; intro a461 hE462; clear hE460
           refine c_nil ?_
           have hE463 := hE462.sub (L' := [(9, .slice b92 (((F_NegationNormal ap positive).1).length / 2 : Nat) c93), (12, .int .i64 (1 + (((F_NegationNormal ap positive).1).length : Int))), (13, .int .i64 1)]) ⟨rfl, rfl, rfl, trivial⟩; clear hE462
           refine p_tn ?_
           refine c_seq ?_
           refine c_reg ?_
           refine q_step (v := .slice b92 (((F_NegationNormal ap positive).1).length / 2 : Nat) c93) hE463 (y_move rfl) rfl rfl rfl ?_; intro a464 hE465; clear hE463
           refine q_step (v := .int .i64 1) hE465 (y_move rfl) rfl rfl rfl ?_; intro a466 hE467; clear hE465
           refine l_step hE467 rfl (l_call (f := 30) (argv := [.slice b92 (((F_NegationNormal ap positive).1).length / 2 : Nat) c93, .int .i64 1]) hE467 (fun _ => cf_l_heldNodeS _ _) rfl rfl (c_l_heldNodeS b92 (((F_NegationNormal ap positive).1).length / 2 : Nat) c93 (marked ((F_NegationNormal ap positive).1).length 1) 1 w456 (St.rdO (i := 2) hS458 rfl) (by first | omega | (simp only [marked_len]; omega) | (simp only [marked_len] at *; omega)) (by first | omega | (simp only [marked_len]; omega) | (simp only [marked_len] at *; omega)) (by first | omega | (simp only [marked_len]; omega) | (simp only [marked_len] at *; omega))) ?_)
           rintro _ w469 ⟨rfl, he473⟩ a470 hE471; clear hE467
           have hS472 := St.go hS458 he473; clear hS458
           refine q_step (v := .int .i64 (F_l_heldNodeS (marked ((F_NegationNormal ap positive).1).length 1) 1)) hE471 (y_assign rfl) rfl rfl rfl ?_; intro a474 hE475; clear hE471
           refine c_nil ?_
           have hE476 := hE475.sub (L' := [(12, .int .i64 (1 + (((F_NegationNormal ap positive).1).length : Int))), (13, .int .i64 (F_l_heldNodeS (marked ((F_NegationNormal ap positive).1).length 1) 1))]) ⟨rfl, rfl, trivial⟩; clear hE475
           refine p_tn ?_
           refine c_seq ?_
           refine c_seq ?_
           refine c_reg ?_
           refine q_step (v := .int .i64 (F_l_heldNodeS (marked ((F_NegationNormal ap positive).1).length 1) 1)) hE476 (y_move rfl) rfl rfl rfl ?_; intro a477 hE478; clear hE476
           refine q_step (v := .bool (decide ((F_l_heldNodeS (marked ((F_NegationNormal ap positive).1).length 1) 1) < 0))) hE478 (y_lss rfl rfl) rfl rfl rfl ?_; intro a479 hE480; clear hE478
           refine c_nil ?_
           have hE481 := hE480.sub (L' := [(12, .int .i64 (1 + (((F_NegationNormal ap positive).1).length : Int))), (13, .int .i64 (F_l_heldNodeS (marked ((F_NegationNormal ap positive).1).length 1) 1)), (97, .bool (decide ((F_l_heldNodeS (marked ((F_NegationNormal ap positive).1).length 1) 1) < 0)))]) ⟨rfl, rfl, rfl, trivial⟩; clear hE480
           refine p_tn ?_
           have hE482 := hE481; rw [ht353] at hE482; clear hE481
           refine c_false hE482 rfl ?_
           refine wp_skip ?_
           refine p_tn ?_
           refine c_seq ?_
           refine c_seq ?_
           refine c_reg ?_
           refine q_step (v := .int .i64 (F_l_heldNodeS (marked ((F_NegationNormal ap positive).1).length 1) 1)) hE482 (y_move rfl) rfl rfl rfl ?_; intro a483 hE484; clear hE482
           refine q_step (v := .int .i64 (1 + (((F_NegationNormal ap positive).1).length : Int))) hE484 (y_move rfl) rfl rfl rfl ?_; intro a485 hE486; clear hE484
           refine q_step (v := .bool (!decide ((F_l_heldNodeS (marked ((F_NegationNormal ap positive).1).length 1) 1) = (1 + (((F_NegationNormal ap positive).1).length : Int))))) hE486 (y_neq rfl rfl) rfl rfl rfl ?_; intro a487 hE488; clear hE486
           refine c_nil ?_
           have hE489 := hE488.sub (L' := [(100, .bool (!decide ((F_l_heldNodeS (marked ((F_NegationNormal ap positive).1).length 1) 1) = (1 + (((F_NegationNormal ap positive).1).length : Int)))))]) ⟨rfl, trivial⟩; clear hE488
           refine p_tn ?_
           have hE490 := hE489; rw [ht368] at hE490; clear hE489
           refine c_false hE490 rfl ?_
           refine wp_skip ?_
           refine p_tn ?_
           refine c_seq ?_
           refine c_reg ?_
           refine q_step (v := .bool true) hE490 (y_assign rfl) rfl rfl rfl ?_; intro a491 hE492; clear hE490
           refine c_nil ?_
           have hE493 := hE492.sub (L' := [(4, .bool true)]) ⟨rfl, trivial⟩; clear hE492
           refine p_tn ?_
           refine wp_ret ?_
           have hF : F_l_FnExactNegationNormal ap positive = true := by unfold F_l_FnExactNegationNormal; rw [ht368, ht353, ht300, ht189, ht155, ht26]; first | done | rfl
           refine c_ret1 hE493 rfl rfl ?_
           exact ⟨(by rw [hF]; first | done | (dsimp only; done) | rfl), hS472.ext⟩

theorem nrm_ev : ∀ (t : Fm) (p : Bool), (t.nrm p).length = (t.nrm p).length / 2 * 2 := by
  intro t
  induction t with
  | leaf k v =>
    intro p
    unfold Fm.nrm
    have h1 := l02Own_len [k, v]
    have h2 := l02Not_len [k, v]
    have h3 := l02True_len
    have h4 := l02False_len
    have h5 : [k, v].length = 2 := rfl
    cases decide (k = 0) <;> cases p <;> simp only [cond_true, cond_false] <;> omega
  | un k v a ih =>
    intro p
    have h0 := ih p
    unfold Fm.nrm
    cases p <;> simp only [Bool.not_true, Bool.not_false, cond_true, cond_false, l02Pre_len] <;> omega
  | bin k v a b iha ihb =>
    intro p
    have a0 := iha true
    have a1 := iha false
    have b0 := ihb true
    have b1 := ihb false
    have h3 := l02True_len
    have h4 := l02False_len
    unfold Fm.nrm
    cases decide (k = 2) <;> cases decide (k = 3) <;> cases decide (gS 2 0 a.code 0 = 1) <;> cases decide (gS 2 0 b.code 0 = 1) <;> cases p <;> simp only [Bool.not_true, Bool.not_false, cond_true, cond_false, l02Pair_len] <;> omega
theorem NegationNormal_ev (ap : List Int) (p : Bool) (he : ap.length = ap.length / 2 * 2) : (F_s_NegationNormal ap p).1.length = (F_s_NegationNormal ap p).1.length / 2 * 2 := by
  unfold F_s_NegationNormal
  cases h : F_l02Is ap
  · simp only [Bool.not_false, cond_true, List.length_nil]
  · obtain ⟨t, ht, e⟩ := IsFm.of he h
    have e1 := s_normal_tree t ht p
    rw [← e, e1]
    have := nrm_ev t p
    by_cases h : 40 < (((t.nrm p).length / 2 : Nat) : Int)
    · simp only [decide_eq_true h, Bool.not_true, cond_true, cond_false, List.length_nil]
    · simp only [decide_eq_false h, Bool.not_true, cond_true, cond_false, List.length_nil]; omega
theorem FnExactNegationNormal_true (ap : List Int) (positive : Bool) (he : ap.length = ap.length / 2 * 2) : F_l_FnExactNegationNormal ap positive = true := by
  have hv := NegationNormal_ev ap positive he
  unfold F_l_FnExactNegationNormal
  rw [NegationNormal_eq ap positive he]
  rw [heldNodeS_eq _ _ hv]
  simp
  omega


end Go.Proofs.Ytkilkfhjfobcdaa
