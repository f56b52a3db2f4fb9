/- GLNN: models and contracts, printed by wip/gen/gen.py -/
import Derived.Test.YtkilkfhjfobcdaaGNA
import Derived.Test.YtkilkfhjfobcdaaGNN
set_option linter.unusedVariables false
set_option linter.unusedSimpArgs false
namespace Go.Proofs.Ytkilkfhjfobcdaa
open Go.RowKit

def F_l_FnExactNotFormula (ap : List Int) : Bool :=
  bif (decide ((F_l_szNodeS ap 1048576) < 0)) then true else (bif ((!(decide (((F_NotFormula ap).1) = ((F_s_NotFormula ap).1)))) || (!decide (((F_NotFormula ap).2) = ((F_s_NotFormula ap).2)))) then false else (bif (!(decide (ap = ap))) then false else (bif ((decide ((1 + (ap.length : Int)) < 0)) || ((!(decide (((F_NotFormula ap).1) = ((F_s_NotFormula ap).1)))) || (!decide (((F_NotFormula ap).2) = ((F_s_NotFormula ap).2))))) then false else (bif (decide ((F_l_heldNodeS (marked ((F_NotFormula ap).1).length 1) 1) < 0)) then false else (bif (!decide ((F_l_heldNodeS (marked ((F_NotFormula ap).1).length 1) 1) = (1 + (((F_NotFormula ap).1).length : Int)))) then false else true)))))
theorem cf_l_FnExactNotFormula (args : Array Value) (w : World) : (callFunc 6 args).run Try.prog w = .ok (.enter 6 args) w := by kernel_rfl
set_option maxRecDepth 100000 in
theorem c_l_FnExactNotFormula (apA : Option Addr) (apN apC : Nat) (ap : List Int) (w : World) (apR : RdS w 2 apA apN apC ap) :
    Calls Try.prog 6 #[.slice apA apN apC] w (Ret fun v w' => v = .bool (F_l_FnExactNotFormula ap) ∧ Ext w w') := by
  obtain rfl : apN = ap.length / 2 := (apR.lenD (by decide)).symm
  have apEv := apR.ev (by decide)
  have apLe := apR.le
  have hS := St.nil w
  have hS1 := St.rd0 hS rfl apR; clear hS
  refine enter (args := [.slice apA ((ap).length / 2 : Nat) apC]) Try.func6 rfl rfl ?_
  rw [Try.ntmps6]; intro a hE
  have hE := hE.sub (L' := [(0, .slice apA ((ap).length / 2 : Nat) apC)]) ⟨rfl, trivial⟩
  refine c_seq ?_
  refine c_reg ?_
  refine q_step (v := .bool false) hE (y_assign rfl) rfl rfl rfl ?_; intro a2 hE3; clear hE
  refine c_nil ?_
  have hE4 := hE3.sub (L' := [(0, .slice apA ((ap).length / 2 : Nat) apC)]) ⟨rfl, trivial⟩; clear hE3
  refine p_tn ?_
  refine c_seq ?_
  refine c_reg ?_
  refine q_step (v := .int .i64 1048576) hE4 (y_assign rfl) rfl rfl rfl ?_; intro a5 hE6; clear hE4
  refine c_nil ?_
  have hE7 := hE6.sub (L' := [(0, .slice apA ((ap).length / 2 : Nat) apC), (3, .int .i64 1048576)]) ⟨rfl, rfl, trivial⟩; clear hE6
  refine p_tn ?_
  refine c_seq ?_
  refine c_reg ?_
  refine q_step (v := .slice apA ((ap).length / 2 : Nat) apC) hE7 (y_move rfl) rfl rfl rfl ?_; intro a8 hE9; clear hE7
  refine q_step (v := .int .i64 1048576) hE9 (y_move rfl) rfl rfl rfl ?_; intro a10 hE11; clear hE9
  refine l_step hE11 rfl (l_call (f := 20) (argv := [.slice apA ((ap).length / 2 : Nat) apC, .int .i64 1048576]) hE11 (fun _ => cf_l_szNodeS _ _) rfl rfl (c_l_szNodeS apA ((ap).length / 2 : Nat) apC ap 1048576 w (St.rdR (i := 0) hS1 rfl) (by first | omega | (simp only [marked_len]; omega) | (simp only [marked_len] at *; omega)) (by first | omega | (simp only [marked_len]; omega) | (simp only [marked_len] at *; omega))) ?_)
  rintro _ _ ⟨rfl, rfl⟩ a14 hE15; clear hE11
  refine q_step (v := .int .i64 (F_l_szNodeS ap 1048576)) hE15 (y_assign rfl) rfl rfl rfl ?_; intro a18 hE19; clear hE15
  refine c_nil ?_
  have hE20 := hE19.sub (L' := [(0, .slice apA ((ap).length / 2 : Nat) apC), (3, .int .i64 (F_l_szNodeS ap 1048576))]) ⟨rfl, rfl, trivial⟩; clear hE19
  refine p_tn ?_
  refine c_seq ?_
  refine c_seq ?_
  refine c_reg ?_
  refine q_step (v := .int .i64 (F_l_szNodeS ap 1048576)) hE20 (y_move rfl) rfl rfl rfl ?_; intro a21 hE22; clear hE20
  refine q_step (v := .bool (decide ((F_l_szNodeS ap 1048576) < 0))) hE22 (y_lss rfl rfl) rfl rfl rfl ?_; intro a23 hE24; clear hE22
  refine c_nil ?_
  have hE25 := hE24.sub (L' := [(0, .slice apA ((ap).length / 2 : Nat) apC), (18, .bool (decide ((F_l_szNodeS ap 1048576) < 0)))]) ⟨rfl, rfl, trivial⟩; clear hE24
  refine p_tn ?_
  refine c_cond hE25 rfl (fun ht26 => ?_) (fun ht26 => ?_)
  ·
    have hp27 := of_decide_eq_true ht26
    have hE28 := hE25; rw [ht26] at hE28; clear hE25
    refine c_seq ?_
    refine c_reg ?_
    refine q_step (v := .bool true) hE28 (y_assign rfl) rfl rfl rfl ?_; intro a29 hE30; clear hE28
    refine c_nil ?_
    have hE31 := hE30.sub (L' := [(2, .bool true)]) ⟨rfl, trivial⟩; clear hE30
    refine p_tn ?_
    refine wp_ret ?_
    refine p_tr ?_
    have hF : F_l_FnExactNotFormula ap = true := by unfold F_l_FnExactNotFormula; rw [ht26]; first | done | rfl
    refine c_ret1 hE31 rfl rfl ?_
    exact ⟨(by rw [hF]; first | done | rfl), hS1.ext⟩
  ·
    have hp32 := of_decide_eq_false ht26
    have hq33 := szNodeS_bound hp32
    have hE34 := hE25; rw [ht26] at hE34; clear hE25
    refine wp_skip ?_
    refine p_tn ?_
    refine c_seq ?_
    refine c_reg ?_
    refine q_step (v := .slice apA ((ap).length / 2 : Nat) apC) hE34 (y_move rfl) rfl rfl rfl ?_; intro a35 hE36; clear hE34
    refine l_step hE36 rfl (l_call (f := 22) (argv := [.slice apA ((ap).length / 2 : Nat) apC]) hE36 (fun _ => cf_l_toNodeS _ _) rfl rfl (d_l_toNodeS apA ((ap).length / 2 : Nat) apC ap w (St.rdR (i := 0) hS1 rfl) (by first | omega | (simp only [marked_len]; omega) | (simp only [marked_len] at *; omega))) ?_)
    rintro _ w38 ⟨b43, c44, rfl, ho45, he42⟩ a39 hE40; clear hE36
    have hS41 := St.own hS1 he42 ho45; clear hS1
    refine l_step hE40 rfl (l_call (f := 27) (argv := [.slice b43 ((ap).length / 2 : Nat) c44]) hE40 (fun _ => cf_s_NotFormula _ _) rfl rfl (c_s_NotFormula b43 ((ap).length / 2 : Nat) c44 ap w38 (St.rdO (i := 0) hS41 rfl) (by first | omega | (simp only [marked_len]; omega) | (simp only [marked_len] at *; omega))) ?_)
    rintro _ w47 ⟨b52, c53, rfl, ho54, he51⟩ a48 hE49; clear hE40
    have hS50 := St.own hS41 he51 ho54; clear hS41
    refine q_step (v := .tuple #[.slice b52 (((F_s_NotFormula ap).1).length / 2 : Nat) c53, .int .i64 ((F_s_NotFormula ap).2)]) hE49 (y_move rfl) rfl rfl rfl ?_; intro a55 hE56; clear hE49
    refine q_step (v := .slice b52 (((F_s_NotFormula ap).1).length / 2 : Nat) c53) hE56 (y_extract rfl rfl) rfl rfl rfl ?_; intro a57 hE58; clear hE56
    refine q_step (v := .int .i64 ((F_s_NotFormula ap).2)) hE58 (y_extract rfl rfl) rfl rfl rfl ?_; intro a59 hE60; clear hE58
    refine q_step (v := .slice b52 (((F_s_NotFormula ap).1).length / 2 : Nat) c53) hE60 (y_assign rfl) rfl rfl rfl ?_; intro a61 hE62; clear hE60
    refine q_step (v := .int .i64 ((F_s_NotFormula ap).2)) hE62 (y_assign rfl) rfl rfl rfl ?_; intro a63 hE64; clear hE62
    refine c_nil ?_
    have hE65 := hE64.sub (L' := [(0, .slice apA ((ap).length / 2 : Nat) apC), (4, .slice b52 (((F_s_NotFormula ap).1).length / 2 : Nat) c53), (5, .int .i64 ((F_s_NotFormula ap).2))]) ⟨rfl, rfl, rfl, trivial⟩; clear hE64
    refine p_tn ?_
    refine c_seq ?_
    refine c_reg ?_
    refine q_step (v := .slice apA ((ap).length / 2 : Nat) apC) hE65 (y_move rfl) rfl rfl rfl ?_; intro a66 hE67; clear hE65
    refine l_step hE67 rfl (l_call (f := 22) (argv := [.slice apA ((ap).length / 2 : Nat) apC]) hE67 (fun _ => cf_l_toNodeS _ _) rfl rfl (d_l_toNodeS apA ((ap).length / 2 : Nat) apC ap w47 (St.rdR (i := 2) hS50 rfl) (by first | omega | (simp only [marked_len]; omega) | (simp only [marked_len] at *; omega))) ?_)
    rintro _ w69 ⟨b74, c75, rfl, ho76, he73⟩ a70 hE71; clear hE67
    have hS72 := St.own hS50 he73 ho76; clear hS50
    refine q_step (v := .slice b74 ((ap).length / 2 : Nat) c75) hE71 (y_assign rfl) rfl rfl rfl ?_; intro a77 hE78; clear hE71
    refine c_nil ?_
    have hE79 := hE78.sub (L' := [(0, .slice apA ((ap).length / 2 : Nat) apC), (4, .slice b52 (((F_s_NotFormula ap).1).length / 2 : Nat) c53), (5, .int .i64 ((F_s_NotFormula ap).2)), (6, .slice b74 ((ap).length / 2 : Nat) c75)]) ⟨rfl, rfl, rfl, rfl, trivial⟩; clear hE78
    refine p_tn ?_
    refine c_seq ?_
    refine c_reg ?_
    refine q_step (v := .slice b74 ((ap).length / 2 : Nat) c75) hE79 (y_move rfl) rfl rfl rfl ?_; intro a80 hE81; clear hE79
    refine l_step hE81 rfl (l_call (f := 28) (argv := [.slice b74 ((ap).length / 2 : Nat) c75]) hE81 (fun _ => cf_NotFormula _ _) rfl rfl (c_NotFormula b74 ((ap).length / 2 : Nat) c75 ap w69 (St.rdO (i := 0) hS72 rfl) (by first | omega | (simp only [marked_len]; omega) | (simp only [marked_len] at *; omega))) ?_)
    rintro _ w83 ⟨b88, c89, rfl, ho90, he87⟩ a84 hE85; clear hE81
    have hf91 := NotFormula_len ap
    have hS86 := St.own hS72 he87 ho90; clear hS72
    refine q_step (v := .tuple #[.slice b88 (((F_NotFormula ap).1).length / 2 : Nat) c89, .int .i64 ((F_NotFormula ap).2)]) hE85 (y_move rfl) rfl rfl rfl ?_; intro a92 hE93; clear hE85
    refine q_step (v := .slice b88 (((F_NotFormula ap).1).length / 2 : Nat) c89) hE93 (y_extract rfl rfl) rfl rfl rfl ?_; intro a94 hE95; clear hE93
    refine q_step (v := .int .i64 ((F_NotFormula ap).2)) hE95 (y_extract rfl rfl) rfl rfl rfl ?_; intro a96 hE97; clear hE95
    refine q_step (v := .slice b88 (((F_NotFormula ap).1).length / 2 : Nat) c89) hE97 (y_assign rfl) rfl rfl rfl ?_; intro a98 hE99; clear hE97
    refine q_step (v := .int .i64 ((F_NotFormula ap).2)) hE99 (y_assign rfl) rfl rfl rfl ?_; intro a100 hE101; clear hE99
    refine c_nil ?_
    have hE102 := hE101.sub (L' := [(0, .slice apA ((ap).length / 2 : Nat) apC), (4, .slice b52 (((F_s_NotFormula ap).1).length / 2 : Nat) c53), (5, .int .i64 ((F_s_NotFormula ap).2)), (6, .slice b74 ((ap).length / 2 : Nat) c75), (7, .slice b88 (((F_NotFormula ap).1).length / 2 : Nat) c89), (8, .int .i64 ((F_NotFormula ap).2))]) ⟨rfl, rfl, rfl, rfl, rfl, rfl, trivial⟩; clear hE101
    refine p_tn ?_
    refine c_seq ?_
    refine c_cut (fun a' w' => E a' 96 [(0, .slice apA ((ap).length / 2 : Nat) apC), (4, .slice b52 (((F_s_NotFormula ap).1).length / 2 : Nat) c53), (5, .int .i64 ((F_s_NotFormula ap).2)), (6, .slice b74 ((ap).length / 2 : Nat) c75), (7, .slice b88 (((F_NotFormula ap).1).length / 2 : Nat) c89), (8, .int .i64 ((F_NotFormula ap).2)), (40, .bool ((!(decide (((F_NotFormula ap).1) = ((F_s_NotFormula ap).1)))) || (!decide (((F_NotFormula ap).2) = ((F_s_NotFormula ap).2)))))] ∧ St w w' [.own 94 2 b88 (((F_NotFormula ap).1).length / 2 : Nat) c89 ((F_NotFormula ap).1), .own 94 2 b74 ((ap).length / 2 : Nat) c75 ap, .own 94 2 b52 (((F_s_NotFormula ap).1).length / 2 : Nat) c53 ((F_s_NotFormula ap).1), .own 94 2 b43 ((ap).length / 2 : Nat) c44 ap, .rd 2 apA ((ap).length / 2 : Nat) apC ap]) ?_ ?_
    ·
      refine c_reg ?_
      refine q_step (v := .slice b88 (((F_NotFormula ap).1).length / 2 : Nat) c89) hE102 (y_move rfl) rfl rfl rfl ?_; intro a103 hE104; clear hE102
      refine q_step (v := .slice b52 (((F_s_NotFormula ap).1).length / 2 : Nat) c53) hE104 (y_move rfl) rfl rfl rfl ?_; intro a105 hE106; clear hE104
      refine l_step hE106 rfl (l_call (f := 24) (argv := [.slice b88 (((F_NotFormula ap).1).length / 2 : Nat) c89, .slice b52 (((F_s_NotFormula ap).1).length / 2 : Nat) c53]) hE106 (fun _ => cf_l_eqNodeS _ _) rfl rfl (d_l_eqNodeS b88 (((F_NotFormula ap).1).length / 2 : Nat) c89 ((F_NotFormula ap).1) b52 (((F_s_NotFormula ap).1).length / 2 : Nat) c53 ((F_s_NotFormula ap).1) w83 (St.rdO (i := 0) hS86 rfl) (St.rdO (i := 2) hS86 rfl)) ?_)
      rintro _ w108 ⟨rfl, he112⟩ a109 hE110; clear hE106
      have hS111 := St.go hS86 he112; clear hS86
      refine q_step (v := .bool (!(decide (((F_NotFormula ap).1) = ((F_s_NotFormula ap).1))))) hE110 (y_not rfl) rfl rfl rfl ?_; intro a113 hE114; clear hE110
      refine q_step (v := .bool (!(decide (((F_NotFormula ap).1) = ((F_s_NotFormula ap).1))))) hE114 (y_move rfl) rfl rfl rfl ?_; intro a115 hE116; clear hE114
      rcases Bool.eq_false_or_eq_true (!(decide (((F_NotFormula ap).1) = ((F_s_NotFormula ap).1)))) with hb117 | hb117
      ·
        have hE118 := hE116; (try rw [hb117] at hE118); clear hE116
        have ht119 := bn_t hb117
        have hp120 := of_decide_eq_false ht119
        refine q_skip hE118 rfl rfl rfl ?_; intro a121 hE122; clear hE118
        refine q_skip hE122 rfl rfl rfl ?_; intro a123 hE124; clear hE122
        refine q_skip hE124 rfl rfl rfl ?_; intro a125 hE126; clear hE124
        refine q_step (v := .bool true) hE126 (y_pick (b := true) rfl rfl) rfl rfl rfl ?_; intro a127 hE128; clear hE126
        refine c_nil ?_
        have hE129 := hE128.sub (L' := [(0, .slice apA ((ap).length / 2 : Nat) apC), (4, .slice b52 (((F_s_NotFormula ap).1).length / 2 : Nat) c53), (5, .int .i64 ((F_s_NotFormula ap).2)), (6, .slice b74 ((ap).length / 2 : Nat) c75), (7, .slice b88 (((F_NotFormula ap).1).length / 2 : Nat) c89), (8, .int .i64 ((F_NotFormula ap).2)), (40, .bool true)]) ⟨rfl, rfl, rfl, rfl, rfl, rfl, rfl, trivial⟩; clear hE128
        refine p_tn ?_
        have hE130 := hE129.sub (L' := [(0, .slice apA ((ap).length / 2 : Nat) apC), (4, .slice b52 (((F_s_NotFormula ap).1).length / 2 : Nat) c53), (5, .int .i64 ((F_s_NotFormula ap).2)), (6, .slice b74 ((ap).length / 2 : Nat) c75), (7, .slice b88 (((F_NotFormula ap).1).length / 2 : Nat) c89), (8, .int .i64 ((F_NotFormula ap).2)), (40, .bool true)]) ⟨rfl, rfl, rfl, rfl, rfl, rfl, rfl, trivial⟩
        have hS131 := (St.pick (Γ' := [.own 94 2 b88 (((F_NotFormula ap).1).length / 2 : Nat) c89 ((F_NotFormula ap).1), .own 94 2 b74 ((ap).length / 2 : Nat) c75 ap, .own 94 2 b52 (((F_s_NotFormula ap).1).length / 2 : Nat) c53 ((F_s_NotFormula ap).1), .own 94 2 b43 ((ap).length / 2 : Nat) c44 ap, .rd 2 apA ((ap).length / 2 : Nat) apC ap]) hS111 [0, 1, 2, 3, 4] (by decide) rfl)
        exact ⟨(by rw [hb117]; exact hE130), hS131⟩
      ·
        have hE132 := hE116; (try rw [hb117] at hE132); clear hE116
        have ht133 := bn_f hb117
        have hp134 := of_decide_eq_true ht133
        refine q_step (v := .int .i64 ((F_NotFormula ap).2)) hE132 (y_move rfl) rfl rfl rfl ?_; intro a135 hE136; clear hE132
        refine q_step (v := .int .i64 ((F_s_NotFormula ap).2)) hE136 (y_move rfl) rfl rfl rfl ?_; intro a137 hE138; clear hE136
        refine q_step (v := .bool (!decide (((F_NotFormula ap).2) = ((F_s_NotFormula ap).2)))) hE138 (y_neq rfl rfl) rfl rfl rfl ?_; intro a139 hE140; clear hE138
        refine q_step (v := .bool (!decide (((F_NotFormula ap).2) = ((F_s_NotFormula ap).2)))) hE140 (y_pick (b := false) rfl rfl) rfl rfl rfl ?_; intro a141 hE142; clear hE140
        refine c_nil ?_
        have hE143 := hE142.sub (L' := [(0, .slice apA ((ap).length / 2 : Nat) apC), (4, .slice b52 (((F_s_NotFormula ap).1).length / 2 : Nat) c53), (5, .int .i64 ((F_s_NotFormula ap).2)), (6, .slice b74 ((ap).length / 2 : Nat) c75), (7, .slice b88 (((F_NotFormula ap).1).length / 2 : Nat) c89), (8, .int .i64 ((F_NotFormula ap).2)), (40, .bool (!decide (((F_NotFormula ap).2) = ((F_s_NotFormula ap).2))))]) ⟨rfl, rfl, rfl, rfl, rfl, rfl, rfl, trivial⟩; clear hE142
        refine p_tn ?_
        have hE144 := hE143.sub (L' := [(0, .slice apA ((ap).length / 2 : Nat) apC), (4, .slice b52 (((F_s_NotFormula ap).1).length / 2 : Nat) c53), (5, .int .i64 ((F_s_NotFormula ap).2)), (6, .slice b74 ((ap).length / 2 : Nat) c75), (7, .slice b88 (((F_NotFormula ap).1).length / 2 : Nat) c89), (8, .int .i64 ((F_NotFormula ap).2)), (40, .bool (!decide (((F_NotFormula ap).2) = ((F_s_NotFormula ap).2))))]) ⟨rfl, rfl, rfl, rfl, rfl, rfl, rfl, trivial⟩
        have hS145 := (St.pick (Γ' := [.own 94 2 b88 (((F_NotFormula ap).1).length / 2 : Nat) c89 ((F_NotFormula ap).1), .own 94 2 b74 ((ap).length / 2 : Nat) c75 ap, .own 94 2 b52 (((F_s_NotFormula ap).1).length / 2 : Nat) c53 ((F_s_NotFormula ap).1), .own 94 2 b43 ((ap).length / 2 : Nat) c44 ap, .rd 2 apA ((ap).length / 2 : Nat) apC ap]) hS111 [0, 1, 2, 3, 4] (by decide) rfl)
        exact ⟨(by rw [hb117]; exact hE144), hS145⟩
    ·
      rintro a146 w147 ⟨hE148, hS149⟩; clear hE102 hS86
      refine c_cond hE148 rfl (fun ht151 => ?_) (fun ht151 => ?_)
      ·
        have hE152 := hE148; rw [ht151] at hE152; clear hE148
        refine c_seq ?_
        refine c_reg ?_
        refine q_step (v := .bool false) hE152 (y_assign rfl) rfl rfl rfl ?_; intro a153 hE154; clear hE152
        refine c_nil ?_
        have hE155 := hE154.sub (L' := [(2, .bool false)]) ⟨rfl, trivial⟩; clear hE154
        refine p_tn ?_
        refine wp_ret ?_
        refine p_tr ?_
        have hF : F_l_FnExactNotFormula ap = false := by unfold F_l_FnExactNotFormula; rw [ht151, ht26]; first | done | rfl
        refine c_ret1 hE155 rfl rfl ?_
        exact ⟨(by rw [hF]; first | done | rfl), hS149.ext⟩
      ·
        obtain ⟨ht156, ht157⟩ := bor_f ht151
        have ht158 := bn_f ht156
        have hp159 := of_decide_eq_true ht158
        have ht160 := bn_f ht157
        have hp161 := of_decide_eq_true ht160
        have hE162 := hE148; rw [ht151] at hE162; clear hE148
        refine wp_skip ?_
        refine p_tn ?_
        refine c_seq ?_
        refine c_seq ?_
        refine c_reg ?_
        refine q_step (v := .slice b74 ((ap).length / 2 : Nat) c75) hE162 (y_move rfl) rfl rfl rfl ?_; intro a163 hE164; clear hE162
        refine q_step (v := .slice apA ((ap).length / 2 : Nat) apC) hE164 (y_move rfl) rfl rfl rfl ?_; intro a165 hE166; clear hE164
        refine l_step hE166 rfl (l_call (f := 22) (argv := [.slice apA ((ap).length / 2 : Nat) apC]) hE166 (fun _ => cf_l_toNodeS _ _) rfl rfl (d_l_toNodeS apA ((ap).length / 2 : Nat) apC ap w147 (St.rdR (i := 4) hS149 rfl) (by first | omega | (simp only [marked_len]; omega) | (simp only [marked_len] at *; omega))) ?_)
        rintro _ w168 ⟨b173, c174, rfl, ho175, he172⟩ a169 hE170; clear hE166
        have hS171 := St.own hS149 he172 ho175; clear hS149
        refine l_step hE170 rfl (l_call (f := 24) (argv := [.slice b74 ((ap).length / 2 : Nat) c75, .slice b173 ((ap).length / 2 : Nat) c174]) hE170 (fun _ => cf_l_eqNodeS _ _) rfl rfl (d_l_eqNodeS b74 ((ap).length / 2 : Nat) c75 ap b173 ((ap).length / 2 : Nat) c174 ap w168 (St.rdO (i := 2) hS171 rfl) (St.rdO (i := 0) hS171 rfl)) ?_)
        rintro _ w177 ⟨rfl, he181⟩ a178 hE179; clear hE170
        have hS180 := St.go hS171 he181; clear hS171
        refine q_step (v := .bool (!(decide (ap = ap)))) hE179 (y_not rfl) rfl rfl rfl ?_; intro a182 hE183; clear hE179
        refine c_nil ?_
        have hE184 := hE183.sub (L' := [(0, .slice apA ((ap).length / 2 : Nat) apC), (4, .slice b52 (((F_s_NotFormula ap).1).length / 2 : Nat) c53), (5, .int .i64 ((F_s_NotFormula ap).2)), (6, .slice b74 ((ap).length / 2 : Nat) c75), (7, .slice b88 (((F_NotFormula ap).1).length / 2 : Nat) c89), (8, .int .i64 ((F_NotFormula ap).2)), (45, .bool (!(decide (ap = ap))))]) ⟨rfl, rfl, rfl, rfl, rfl, rfl, rfl, trivial⟩; clear hE183
        refine p_tn ?_
        refine c_cond hE184 rfl (fun ht185 => ?_) (fun ht185 => ?_)
        ·
          have ht186 := bn_t ht185
          have hp187 := of_decide_eq_false ht186
          have hE188 := hE184; rw [ht185] at hE188; clear hE184
          refine c_seq ?_
          refine c_reg ?_
          refine q_step (v := .bool false) hE188 (y_assign rfl) rfl rfl rfl ?_; intro a189 hE190; clear hE188
          refine c_nil ?_
          have hE191 := hE190.sub (L' := [(2, .bool false)]) ⟨rfl, trivial⟩; clear hE190
          refine p_tn ?_
          refine wp_ret ?_
          refine p_tr ?_
          have hF : F_l_FnExactNotFormula ap = false := by unfold F_l_FnExactNotFormula; rw [ht185, ht151, ht26]; first | done | rfl
          refine c_ret1 hE191 rfl rfl ?_
          exact ⟨(by rw [hF]; first | done | rfl), hS180.ext⟩
        ·
          have ht192 := bn_f ht185
          have hp193 := of_decide_eq_true ht192
          have hE194 := hE184; rw [ht185] at hE194; clear hE184
          refine wp_skip ?_
          refine p_tn ?_
          refine c_seq ?_
          refine c_reg ?_
          refine q_step (v := .int .i64 1) hE194 (y_assign rfl) rfl rfl rfl ?_; intro a195 hE196; clear hE194
          refine c_nil ?_
          have hE197 := hE196.sub (L' := [(0, .slice apA ((ap).length / 2 : Nat) apC), (4, .slice b52 (((F_s_NotFormula ap).1).length / 2 : Nat) c53), (5, .int .i64 ((F_s_NotFormula ap).2)), (6, .slice b74 ((ap).length / 2 : Nat) c75), (7, .slice b88 (((F_NotFormula ap).1).length / 2 : Nat) c89), (8, .int .i64 ((F_NotFormula ap).2)), (9, .int .i64 1)]) ⟨rfl, rfl, rfl, rfl, rfl, rfl, rfl, trivial⟩; clear hE196
          refine p_tn ?_
          refine c_seq ?_
          refine c_reg ?_
          refine q_step (v := .slice b74 ((ap).length / 2 : Nat) c75) hE197 (y_move rfl) rfl rfl rfl ?_; intro a198 hE199; clear hE197
          refine q_step (v := .int .i64 1) hE199 (y_move rfl) rfl rfl rfl ?_; intro a200 hE201; clear hE199
          have hS208 := (St.pick (Γ' := [.own 94 2 b74 ((ap).length / 2 : Nat) c75 ap, .own 94 2 b173 ((ap).length / 2 : Nat) c174 ap, .own 94 2 b88 (((F_NotFormula ap).1).length / 2 : Nat) c89 ((F_NotFormula ap).1), .own 94 2 b52 (((F_s_NotFormula ap).1).length / 2 : Nat) c53 ((F_s_NotFormula ap).1), .own 94 2 b43 ((ap).length / 2 : Nat) c44 ap, .rd 2 apA ((ap).length / 2 : Nat) apC ap]) hS180 [2, 0, 1, 3, 4, 5] (by decide) rfl); clear hS180
          refine l_step hE201 rfl (l_call (f := 29) (argv := [.slice b74 ((ap).length / 2 : Nat) c75, .int .i64 1]) hE201 (fun _ => cf_l_markNodeS _ _) rfl rfl (d_l_markNodeS b74 ((ap).length / 2 : Nat) c75 ap 1 w177 w [.own 94 2 b173 ((ap).length / 2 : Nat) c174 ap, .own 94 2 b88 (((F_NotFormula ap).1).length / 2 : Nat) c89 ((F_NotFormula ap).1), .own 94 2 b52 (((F_s_NotFormula ap).1).length / 2 : Nat) c53 ((F_s_NotFormula ap).1), .own 94 2 b43 ((ap).length / 2 : Nat) c44 ap, .rd 2 apA ((ap).length / 2 : Nat) apC ap] hS208 (by first | omega | (simp only [marked_len]; omega) | (simp only [marked_len] at *; omega)) (by first | omega | (simp only [marked_len]; omega) | (simp only [marked_len] at *; omega)) (by first | omega | (simp only [marked_len]; omega) | (simp only [marked_len] at *; omega))) ?_)
          rintro _ w203 ⟨rfl, hS206⟩ a204 hE205; clear hE201 hS208
          refine q_step (v := .int .i64 (1 + (ap.length : Int))) hE205 (y_assign rfl) rfl rfl rfl ?_; intro a209 hE210; clear hE205
          refine c_nil ?_
          have hE211 := hE210.sub (L' := [(0, .slice apA ((ap).length / 2 : Nat) apC), (4, .slice b52 (((F_s_NotFormula ap).1).length / 2 : Nat) c53), (5, .int .i64 ((F_s_NotFormula ap).2)), (7, .slice b88 (((F_NotFormula ap).1).length / 2 : Nat) c89), (8, .int .i64 ((F_NotFormula ap).2)), (9, .int .i64 (1 + (ap.length : Int)))]) ⟨rfl, rfl, rfl, rfl, rfl, rfl, trivial⟩; clear hE210
          refine p_tn ?_
          refine c_seq ?_
          refine c_cut (fun a' w' => E a' 96 [(0, .slice apA ((ap).length / 2 : Nat) apC), (4, .slice b52 (((F_s_NotFormula ap).1).length / 2 : Nat) c53), (5, .int .i64 ((F_s_NotFormula ap).2)), (7, .slice b88 (((F_NotFormula ap).1).length / 2 : Nat) c89), (61, .bool ((decide ((1 + (ap.length : Int)) < 0)) || ((!(decide (((F_NotFormula ap).1) = ((F_s_NotFormula ap).1)))) || (!decide (((F_NotFormula ap).2) = ((F_s_NotFormula ap).2))))))] ∧ St w w' [.own 94 2 b74 ((ap).length / 2 : Nat) c75 (marked ap.length 1), .own 94 2 b173 ((ap).length / 2 : Nat) c174 ap, .own 94 2 b88 (((F_NotFormula ap).1).length / 2 : Nat) c89 ((F_NotFormula ap).1), .own 94 2 b52 (((F_s_NotFormula ap).1).length / 2 : Nat) c53 ((F_s_NotFormula ap).1), .own 94 2 b43 ((ap).length / 2 : Nat) c44 ap, .rd 2 apA ((ap).length / 2 : Nat) apC ap]) ?_ ?_
          ·
            refine c_reg ?_
            refine q_step (v := .int .i64 (1 + (ap.length : Int))) hE211 (y_move rfl) rfl rfl rfl ?_; intro a212 hE213; clear hE211
            refine q_step (v := .bool (decide ((1 + (ap.length : Int)) < 0))) hE213 (y_lss rfl rfl) rfl rfl rfl ?_; intro a214 hE215; clear hE213
            refine q_step (v := .bool (decide ((1 + (ap.length : Int)) < 0))) hE215 (y_move rfl) rfl rfl rfl ?_; intro a216 hE217; clear hE215
            rcases Bool.eq_false_or_eq_true (decide ((1 + (ap.length : Int)) < 0)) with hb218 | hb218
            ·
              have hE219 := hE217; (try rw [hb218] at hE219); clear hE217
              have hp220 := of_decide_eq_true hb218
              refine q_skip hE219 rfl rfl rfl ?_; intro a221 hE222; clear hE219
              refine q_skip hE222 rfl rfl rfl ?_; intro a223 hE224; clear hE222
              refine q_skip hE224 rfl rfl rfl ?_; intro a225 hE226; clear hE224
              refine q_skip hE226 rfl rfl rfl ?_; intro a227 hE228; clear hE226
              refine q_step (v := .bool true) hE228 (y_pick (b := true) rfl rfl) rfl rfl rfl ?_; intro a229 hE230; clear hE228
              refine q_step (v := .bool true) hE230 (y_move rfl) rfl rfl rfl ?_; intro a231 hE232; clear hE230
              refine q_skip hE232 rfl rfl rfl ?_; intro a233 hE234; clear hE232
              refine q_skip hE234 rfl rfl rfl ?_; intro a235 hE236; clear hE234
              refine q_skip hE236 rfl rfl rfl ?_; intro a237 hE238; clear hE236
              refine q_step (v := .bool true) hE238 (y_pick (b := true) rfl rfl) rfl rfl rfl ?_; intro a239 hE240; clear hE238
              refine c_nil ?_
              have hE241 := hE240.sub (L' := [(0, .slice apA ((ap).length / 2 : Nat) apC), (4, .slice b52 (((F_s_NotFormula ap).1).length / 2 : Nat) c53), (5, .int .i64 ((F_s_NotFormula ap).2)), (7, .slice b88 (((F_NotFormula ap).1).length / 2 : Nat) c89), (61, .bool true)]) ⟨rfl, rfl, rfl, rfl, rfl, trivial⟩; clear hE240
              refine p_tn ?_
              have hE242 := hE241.sub (L' := [(0, .slice apA ((ap).length / 2 : Nat) apC), (4, .slice b52 (((F_s_NotFormula ap).1).length / 2 : Nat) c53), (5, .int .i64 ((F_s_NotFormula ap).2)), (7, .slice b88 (((F_NotFormula ap).1).length / 2 : Nat) c89), (61, .bool true)]) ⟨rfl, rfl, rfl, rfl, rfl, trivial⟩
              have hS243 := (St.pick (Γ' := [.own 94 2 b74 ((ap).length / 2 : Nat) c75 (marked ap.length 1), .own 94 2 b173 ((ap).length / 2 : Nat) c174 ap, .own 94 2 b88 (((F_NotFormula ap).1).length / 2 : Nat) c89 ((F_NotFormula ap).1), .own 94 2 b52 (((F_s_NotFormula ap).1).length / 2 : Nat) c53 ((F_s_NotFormula ap).1), .own 94 2 b43 ((ap).length / 2 : Nat) c44 ap, .rd 2 apA ((ap).length / 2 : Nat) apC ap]) hS206 [0, 1, 2, 3, 4, 5] (by decide) rfl)
              exact ⟨(by rw [hb218]; exact hE242), hS243⟩
            ·
              have hE244 := hE217; (try rw [hb218] at hE244); clear hE217
              have hp245 := of_decide_eq_false hb218
              refine q_step (v := .slice b88 (((F_NotFormula ap).1).length / 2 : Nat) c89) hE244 (y_move rfl) rfl rfl rfl ?_; intro a246 hE247; clear hE244
              refine q_step (v := .slice b52 (((F_s_NotFormula ap).1).length / 2 : Nat) c53) hE247 (y_move rfl) rfl rfl rfl ?_; intro a248 hE249; clear hE247
              refine l_step hE249 rfl (l_call (f := 24) (argv := [.slice b88 (((F_NotFormula ap).1).length / 2 : Nat) c89, .slice b52 (((F_s_NotFormula ap).1).length / 2 : Nat) c53]) hE249 (fun _ => cf_l_eqNodeS _ _) rfl rfl (d_l_eqNodeS b88 (((F_NotFormula ap).1).length / 2 : Nat) c89 ((F_NotFormula ap).1) b52 (((F_s_NotFormula ap).1).length / 2 : Nat) c53 ((F_s_NotFormula ap).1) w203 (St.rdO (i := 2) hS206 rfl) (St.rdO (i := 3) hS206 rfl)) ?_)
              rintro _ w251 ⟨rfl, he255⟩ a252 hE253; clear hE249
              have hS254 := St.go hS206 he255; clear hS206
              refine q_step (v := .bool (!(decide (((F_NotFormula ap).1) = ((F_s_NotFormula ap).1))))) hE253 (y_not rfl) rfl rfl rfl ?_; intro a256 hE257; clear hE253
              refine q_step (v := .bool (!(decide (((F_NotFormula ap).1) = ((F_s_NotFormula ap).1))))) hE257 (y_pick (b := false) rfl rfl) rfl rfl rfl ?_; intro a258 hE259; clear hE257
              refine q_step (v := .bool (!(decide (((F_NotFormula ap).1) = ((F_s_NotFormula ap).1))))) hE259 (y_move rfl) rfl rfl rfl ?_; intro a260 hE261; clear hE259
              rcases Bool.eq_false_or_eq_true (!(decide (((F_NotFormula ap).1) = ((F_s_NotFormula ap).1)))) with hb262 | hb262
              ·
                have hE263 := hE261; (try rw [hb262] at hE263); clear hE261
                have ht264 := bn_t hb262
                have hp265 := of_decide_eq_false ht264
                refine q_skip hE263 rfl rfl rfl ?_; intro a266 hE267; clear hE263
                refine q_skip hE267 rfl rfl rfl ?_; intro a268 hE269; clear hE267
                refine q_skip hE269 rfl rfl rfl ?_; intro a270 hE271; clear hE269
                refine q_step (v := .bool true) hE271 (y_pick (b := true) rfl rfl) rfl rfl rfl ?_; intro a272 hE273; clear hE271
                refine c_nil ?_
                have hE274 := hE273.sub (L' := [(0, .slice apA ((ap).length / 2 : Nat) apC), (4, .slice b52 (((F_s_NotFormula ap).1).length / 2 : Nat) c53), (5, .int .i64 ((F_s_NotFormula ap).2)), (7, .slice b88 (((F_NotFormula ap).1).length / 2 : Nat) c89), (61, .bool true)]) ⟨rfl, rfl, rfl, rfl, rfl, trivial⟩; clear hE273
                refine p_tn ?_
                have hE275 := hE274.sub (L' := [(0, .slice apA ((ap).length / 2 : Nat) apC), (4, .slice b52 (((F_s_NotFormula ap).1).length / 2 : Nat) c53), (5, .int .i64 ((F_s_NotFormula ap).2)), (7, .slice b88 (((F_NotFormula ap).1).length / 2 : Nat) c89), (61, .bool true)]) ⟨rfl, rfl, rfl, rfl, rfl, trivial⟩
                have hS276 := (St.pick (Γ' := [.own 94 2 b74 ((ap).length / 2 : Nat) c75 (marked ap.length 1), .own 94 2 b173 ((ap).length / 2 : Nat) c174 ap, .own 94 2 b88 (((F_NotFormula ap).1).length / 2 : Nat) c89 ((F_NotFormula ap).1), .own 94 2 b52 (((F_s_NotFormula ap).1).length / 2 : Nat) c53 ((F_s_NotFormula ap).1), .own 94 2 b43 ((ap).length / 2 : Nat) c44 ap, .rd 2 apA ((ap).length / 2 : Nat) apC ap]) hS254 [0, 1, 2, 3, 4, 5] (by decide) rfl)
                exact ⟨(by rw [hb262, hb218]; exact hE275), hS276⟩
              ·
                have hE277 := hE261; (try rw [hb262] at hE277); clear hE261
                have ht278 := bn_f hb262
                have hp279 := of_decide_eq_true ht278
                refine q_step (v := .int .i64 ((F_NotFormula ap).2)) hE277 (y_move rfl) rfl rfl rfl ?_; intro a280 hE281; clear hE277
                refine q_step (v := .int .i64 ((F_s_NotFormula ap).2)) hE281 (y_move rfl) rfl rfl rfl ?_; intro a282 hE283; clear hE281
                refine q_step (v := .bool (!decide (((F_NotFormula ap).2) = ((F_s_NotFormula ap).2)))) hE283 (y_neq rfl rfl) rfl rfl rfl ?_; intro a284 hE285; clear hE283
                refine q_step (v := .bool (!decide (((F_NotFormula ap).2) = ((F_s_NotFormula ap).2)))) hE285 (y_pick (b := false) rfl rfl) rfl rfl rfl ?_; intro a286 hE287; clear hE285
                refine c_nil ?_
                have hE288 := hE287.sub (L' := [(0, .slice apA ((ap).length / 2 : Nat) apC), (4, .slice b52 (((F_s_NotFormula ap).1).length / 2 : Nat) c53), (5, .int .i64 ((F_s_NotFormula ap).2)), (7, .slice b88 (((F_NotFormula ap).1).length / 2 : Nat) c89), (61, .bool (!decide (((F_NotFormula ap).2) = ((F_s_NotFormula ap).2))))]) ⟨rfl, rfl, rfl, rfl, rfl, trivial⟩; clear hE287
                refine p_tn ?_
                have hE289 := hE288.sub (L' := [(0, .slice apA ((ap).length / 2 : Nat) apC), (4, .slice b52 (((F_s_NotFormula ap).1).length / 2 : Nat) c53), (5, .int .i64 ((F_s_NotFormula ap).2)), (7, .slice b88 (((F_NotFormula ap).1).length / 2 : Nat) c89), (61, .bool (!decide (((F_NotFormula ap).2) = ((F_s_NotFormula ap).2))))]) ⟨rfl, rfl, rfl, rfl, rfl, trivial⟩
                have hS290 := (St.pick (Γ' := [.own 94 2 b74 ((ap).length / 2 : Nat) c75 (marked ap.length 1), .own 94 2 b173 ((ap).length / 2 : Nat) c174 ap, .own 94 2 b88 (((F_NotFormula ap).1).length / 2 : Nat) c89 ((F_NotFormula ap).1), .own 94 2 b52 (((F_s_NotFormula ap).1).length / 2 : Nat) c53 ((F_s_NotFormula ap).1), .own 94 2 b43 ((ap).length / 2 : Nat) c44 ap, .rd 2 apA ((ap).length / 2 : Nat) apC ap]) hS254 [0, 1, 2, 3, 4, 5] (by decide) rfl)
                exact ⟨(by rw [hb262, hb218]; exact hE289), hS290⟩
          ·
            rintro a291 w292 ⟨hE293, hS294⟩; clear hE211 hS206
            refine c_cond hE293 rfl (fun ht296 => ?_) (fun ht296 => ?_)
            ·
              have hE297 := hE293; rw [ht296] at hE297; clear hE293
              refine c_seq ?_
              refine c_reg ?_
              refine q_step (v := .bool false) hE297 (y_assign rfl) rfl rfl rfl ?_; intro a298 hE299; clear hE297
              refine c_nil ?_
              have hE300 := hE299.sub (L' := [(2, .bool false)]) ⟨rfl, trivial⟩; clear hE299
              refine p_tn ?_
              refine wp_ret ?_
              refine p_tr ?_
              have hF : F_l_FnExactNotFormula ap = false := by unfold F_l_FnExactNotFormula; rw [ht296, ht185, ht151, ht26]; first | done | rfl
              refine c_ret1 hE300 rfl rfl ?_
              exact ⟨(by rw [hF]; first | done | rfl), hS294.ext⟩
            ·
              obtain ⟨ht301, ht302⟩ := bor_f ht296
              have hp303 := of_decide_eq_false ht301
              obtain ⟨ht304, ht305⟩ := bor_f ht302
              have ht306 := bn_f ht304
              have hp307 := of_decide_eq_true ht306
              have ht308 := bn_f ht305
              have hp309 := of_decide_eq_true ht308
              have hE310 := hE293; rw [ht296] at hE310; clear hE293
              refine wp_skip ?_
              refine p_tn ?_
              refine c_seq ?_
              refine c_reg ?_
              refine q_step (v := .int .i64 1) hE310 (y_assign rfl) rfl rfl rfl ?_; intro a311 hE312; clear hE310
              refine c_nil ?_
              have hE313 := hE312.sub (L' := [(0, .slice apA ((ap).length / 2 : Nat) apC), (4, .slice b52 (((F_s_NotFormula ap).1).length / 2 : Nat) c53), (5, .int .i64 ((F_s_NotFormula ap).2)), (7, .slice b88 (((F_NotFormula ap).1).length / 2 : Nat) c89), (10, .int .i64 1)]) ⟨rfl, rfl, rfl, rfl, rfl, trivial⟩; clear hE312
              refine p_tn ?_
              refine c_seq ?_
              refine c_reg ?_
              refine q_step (v := .slice b88 (((F_NotFormula ap).1).length / 2 : Nat) c89) hE313 (y_move rfl) rfl rfl rfl ?_; intro a314 hE315; clear hE313
              refine q_step (v := .int .i64 1) hE315 (y_move rfl) rfl rfl rfl ?_; intro a316 hE317; clear hE315
              have hS324 := (St.pick (Γ' := [.own 94 2 b88 (((F_NotFormula ap).1).length / 2 : Nat) c89 ((F_NotFormula ap).1), .own 94 2 b74 ((ap).length / 2 : Nat) c75 (marked ap.length 1), .own 94 2 b173 ((ap).length / 2 : Nat) c174 ap, .own 94 2 b52 (((F_s_NotFormula ap).1).length / 2 : Nat) c53 ((F_s_NotFormula ap).1), .own 94 2 b43 ((ap).length / 2 : Nat) c44 ap, .rd 2 apA ((ap).length / 2 : Nat) apC ap]) hS294 [2, 0, 1, 3, 4, 5] (by decide) rfl); clear hS294
              refine l_step hE317 rfl (l_call (f := 29) (argv := [.slice b88 (((F_NotFormula ap).1).length / 2 : Nat) c89, .int .i64 1]) hE317 (fun _ => cf_l_markNodeS _ _) rfl rfl (d_l_markNodeS b88 (((F_NotFormula ap).1).length / 2 : Nat) c89 ((F_NotFormula ap).1) 1 w292 w [.own 94 2 b74 ((ap).length / 2 : Nat) c75 (marked ap.length 1), .own 94 2 b173 ((ap).length / 2 : Nat) c174 ap, .own 94 2 b52 (((F_s_NotFormula ap).1).length / 2 : Nat) c53 ((F_s_NotFormula ap).1), .own 94 2 b43 ((ap).length / 2 : Nat) c44 ap, .rd 2 apA ((ap).length / 2 : Nat) apC ap] hS324 (by first | omega | (simp only [marked_len]; omega) | (simp only [marked_len] at *; omega)) (by first | omega | (simp only [marked_len]; omega) | (simp only [marked_len] at *; omega)) (by first | omega | (simp only [marked_len]; omega) | (simp only [marked_len] at *; omega))) ?_)
              rintro _ w319 ⟨rfl, hS322⟩ a320 hE321; clear hE317 hS324
              refine q_step (v := .int .i64 (1 + (((F_NotFormula ap).1).length : Int))) hE321 (y_assign rfl) rfl rfl rfl ?_; intro a325 hE326; clear hE321
              refine c_nil ?_
              have hE327 := hE326.sub (L' := [(0, .slice apA ((ap).length / 2 : Nat) apC), (4, .slice b52 (((F_s_NotFormula ap).1).length / 2 : Nat) c53), (5, .int .i64 ((F_s_NotFormula ap).2)), (7, .slice b88 (((F_NotFormula ap).1).length / 2 : Nat) c89), (10, .int .i64 (1 + (((F_NotFormula ap).1).length : Int)))]) ⟨rfl, rfl, rfl, rfl, rfl, trivial⟩; clear hE326
              refine p_tn ?_
              refine c_seq ?_
              refine c_reg ?_
              refine q_step (v := .int .i64 1) hE327 (y_assign rfl) rfl rfl rfl ?_; intro a328 hE329; clear hE327
              refine c_nil ?_
              have hE330 := hE329.sub (L' := [(0, .slice apA ((ap).length / 2 : Nat) apC), (4, .slice b52 (((F_s_NotFormula ap).1).length / 2 : Nat) c53), (5, .int .i64 ((F_s_NotFormula ap).2)), (7, .slice b88 (((F_NotFormula ap).1).length / 2 : Nat) c89), (10, .int .i64 (1 + (((F_NotFormula ap).1).length : Int))), (11, .int .i64 1)]) ⟨rfl, rfl, rfl, rfl, rfl, rfl, trivial⟩; clear hE329
              refine p_tn ?_
              refine c_seq ?_
              refine c_reg ?_
              refine q_step (v := .slice b88 (((F_NotFormula ap).1).length / 2 : Nat) c89) hE330 (y_move rfl) rfl rfl rfl ?_; intro a331 hE332; clear hE330
              refine q_step (v := .int .i64 1) hE332 (y_move rfl) rfl rfl rfl ?_; intro a333 hE334; clear hE332
              refine l_step hE334 rfl (l_call (f := 30) (argv := [.slice b88 (((F_NotFormula ap).1).length / 2 : Nat) c89, .int .i64 1]) hE334 (fun _ => cf_l_heldNodeS _ _) rfl rfl (c_l_heldNodeS b88 (((F_NotFormula ap).1).length / 2 : Nat) c89 (marked ((F_NotFormula ap).1).length 1) 1 w319 (St.rdO (i := 0) hS322 rfl) (by first | omega | (simp only [marked_len]; omega) | (simp only [marked_len] at *; omega)) (by first | omega | (simp only [marked_len]; omega) | (simp only [marked_len] at *; omega)) (by first | omega | (simp only [marked_len]; omega) | (simp only [marked_len] at *; omega))) ?_)
              rintro _ w336 ⟨rfl, he340⟩ a337 hE338; clear hE334
              have hS339 := St.go hS322 he340; clear hS322
              refine q_step (v := .int .i64 (F_l_heldNodeS (marked ((F_NotFormula ap).1).length 1) 1)) hE338 (y_assign rfl) rfl rfl rfl ?_; intro a341 hE342; clear hE338
              refine c_nil ?_
              have hE343 := hE342.sub (L' := [(0, .slice apA ((ap).length / 2 : Nat) apC), (4, .slice b52 (((F_s_NotFormula ap).1).length / 2 : Nat) c53), (5, .int .i64 ((F_s_NotFormula ap).2)), (7, .slice b88 (((F_NotFormula ap).1).length / 2 : Nat) c89), (10, .int .i64 (1 + (((F_NotFormula ap).1).length : Int))), (11, .int .i64 (F_l_heldNodeS (marked ((F_NotFormula ap).1).length 1) 1))]) ⟨rfl, rfl, rfl, rfl, rfl, rfl, trivial⟩; clear hE342
              refine p_tn ?_
              refine c_seq ?_
              refine c_seq ?_
              refine c_reg ?_
              refine q_step (v := .int .i64 (F_l_heldNodeS (marked ((F_NotFormula ap).1).length 1) 1)) hE343 (y_move rfl) rfl rfl rfl ?_; intro a344 hE345; clear hE343
              refine q_step (v := .bool (decide ((F_l_heldNodeS (marked ((F_NotFormula ap).1).length 1) 1) < 0))) hE345 (y_lss rfl rfl) rfl rfl rfl ?_; intro a346 hE347; clear hE345
              refine c_nil ?_
              have hE348 := hE347.sub (L' := [(0, .slice apA ((ap).length / 2 : Nat) apC), (4, .slice b52 (((F_s_NotFormula ap).1).length / 2 : Nat) c53), (5, .int .i64 ((F_s_NotFormula ap).2)), (7, .slice b88 (((F_NotFormula ap).1).length / 2 : Nat) c89), (10, .int .i64 (1 + (((F_NotFormula ap).1).length : Int))), (11, .int .i64 (F_l_heldNodeS (marked ((F_NotFormula ap).1).length 1) 1)), (69, .bool (decide ((F_l_heldNodeS (marked ((F_NotFormula ap).1).length 1) 1) < 0)))]) ⟨rfl, rfl, rfl, rfl, rfl, rfl, rfl, trivial⟩; clear hE347
              refine p_tn ?_
              refine c_cond hE348 rfl (fun ht349 => ?_) (fun ht349 => ?_)
              ·
                have hp350 := of_decide_eq_true ht349
                have hE351 := hE348; rw [ht349] at hE351; clear hE348
                refine c_seq ?_
                refine c_reg ?_
                refine q_step (v := .bool false) hE351 (y_assign rfl) rfl rfl rfl ?_; intro a352 hE353; clear hE351
                refine c_nil ?_
                have hE354 := hE353.sub (L' := [(2, .bool false)]) ⟨rfl, trivial⟩; clear hE353
                refine p_tn ?_
                refine wp_ret ?_
                refine p_tr ?_
                have hF : F_l_FnExactNotFormula ap = false := by unfold F_l_FnExactNotFormula; rw [ht349, ht296, ht185, ht151, ht26]; first | done | rfl
                refine c_ret1 hE354 rfl rfl ?_
                exact ⟨(by rw [hF]; first | done | rfl), hS339.ext⟩
              ·
                have hp355 := of_decide_eq_false ht349
                have hE356 := hE348; rw [ht349] at hE356; clear hE348
                refine wp_skip ?_
                refine p_tn ?_
                refine c_seq ?_
                refine c_seq ?_
                refine c_reg ?_
                refine q_step (v := .int .i64 (F_l_heldNodeS (marked ((F_NotFormula ap).1).length 1) 1)) hE356 (y_move rfl) rfl rfl rfl ?_; intro a357 hE358; clear hE356
                refine q_step (v := .int .i64 (1 + (((F_NotFormula ap).1).length : Int))) hE358 (y_move rfl) rfl rfl rfl ?_; intro a359 hE360; clear hE358
                refine q_step (v := .bool (!decide ((F_l_heldNodeS (marked ((F_NotFormula ap).1).length 1) 1) = (1 + (((F_NotFormula ap).1).length : Int))))) hE360 (y_neq rfl rfl) rfl rfl rfl ?_; intro a361 hE362; clear hE360
                refine c_nil ?_
                have hE363 := hE362.sub (L' := [(0, .slice apA ((ap).length / 2 : Nat) apC), (4, .slice b52 (((F_s_NotFormula ap).1).length / 2 : Nat) c53), (5, .int .i64 ((F_s_NotFormula ap).2)), (7, .slice b88 (((F_NotFormula ap).1).length / 2 : Nat) c89), (10, .int .i64 (1 + (((F_NotFormula ap).1).length : Int))), (72, .bool (!decide ((F_l_heldNodeS (marked ((F_NotFormula ap).1).length 1) 1) = (1 + (((F_NotFormula ap).1).length : Int)))))]) ⟨rfl, rfl, rfl, rfl, rfl, rfl, trivial⟩; clear hE362
                refine p_tn ?_
                refine c_cond hE363 rfl (fun ht364 => ?_) (fun ht364 => ?_)
                ·
                  have ht365 := bn_t ht364
                  have hp366 := of_decide_eq_false ht365
                  have hE367 := hE363; rw [ht364] at hE367; clear hE363
                  refine c_seq ?_
                  refine c_reg ?_
                  refine q_step (v := .bool false) hE367 (y_assign rfl) rfl rfl rfl ?_; intro a368 hE369; clear hE367
                  refine c_nil ?_
                  have hE370 := hE369.sub (L' := [(2, .bool false)]) ⟨rfl, trivial⟩; clear hE369
                  refine p_tn ?_
                  refine wp_ret ?_
                  refine p_tr ?_
                  have hF : F_l_FnExactNotFormula ap = false := by unfold F_l_FnExactNotFormula; rw [ht364, ht349, ht296, ht185, ht151, ht26]; first | done | rfl
                  refine c_ret1 hE370 rfl rfl ?_
                  exact ⟨(by rw [hF]; first | done | rfl), hS339.ext⟩
                ·
                  have ht371 := bn_f ht364
                  have hp372 := of_decide_eq_true ht371
                  have hE373 := hE363; rw [ht364] at hE373; clear hE363
                  refine wp_skip ?_
                  refine p_tn ?_
                  refine c_seq ?_
                  refine c_reg ?_
                  refine q_step (v := .slice apA ((ap).length / 2 : Nat) apC) hE373 (y_move rfl) rfl rfl rfl ?_; intro a374 hE375; clear hE373
                  refine l_step hE375 rfl (l_call (f := 22) (argv := [.slice apA ((ap).length / 2 : Nat) apC]) hE375 (fun _ => cf_l_toNodeS _ _) rfl rfl (d_l_toNodeS apA ((ap).length / 2 : Nat) apC ap w336 (St.rdR (i := 5) hS339 rfl) (by first | omega | (simp only [marked_len]; omega) | (simp only [marked_len] at *; omega))) ?_)
                  rintro _ w377 ⟨b382, c383, rfl, ho384, he381⟩ a378 hE379; clear hE375
                  have hS380 := St.own hS339 he381 ho384; clear hS339
                  refine l_step hE379 rfl (l_call (f := 28) (argv := [.slice b382 ((ap).length / 2 : Nat) c383]) hE379 (fun _ => cf_NotFormula _ _) rfl rfl (c_NotFormula b382 ((ap).length / 2 : Nat) c383 ap w377 (St.rdO (i := 0) hS380 rfl) (by first | omega | (simp only [marked_len]; omega) | (simp only [marked_len] at *; omega))) ?_)
                  rintro _ w386 ⟨b391, c392, rfl, ho393, he390⟩ a387 hE388; clear hE379
                  have hf394 := NotFormula_len ap
                  have hS389 := St.own hS380 he390 ho393; clear hS380
                  refine q_step (v := .tuple #[.slice b391 (((F_NotFormula ap).1).length / 2 : Nat) c392, .int .i64 ((F_NotFormula ap).2)]) hE388 (y_move rfl) rfl rfl rfl ?_; intro a395 hE396; clear hE388
                  refine q_step (v := .slice b391 (((F_NotFormula ap).1).length / 2 : Nat) c392) hE396 (y_extract rfl rfl) rfl rfl rfl ?_; intro a397 hE398; clear hE396
                  refine q_step (v := .int .i64 ((F_NotFormula ap).2)) hE398 (y_extract rfl rfl) rfl rfl rfl ?_; intro a399 hE400; clear hE398
                  refine q_step (v := .slice b391 (((F_NotFormula ap).1).length / 2 : Nat) c392) hE400 (y_assign rfl) rfl rfl rfl ?_; intro a401 hE402; clear hE400
                  refine q_step (v := .int .i64 ((F_NotFormula ap).2)) hE402 (y_assign rfl) rfl rfl rfl ?_; intro a403 hE404; clear hE402
                  refine c_nil ?_
                  have hE405 := hE404.sub (L' := [(4, .slice b52 (((F_s_NotFormula ap).1).length / 2 : Nat) c53), (5, .int .i64 ((F_s_NotFormula ap).2)), (7, .slice b88 (((F_NotFormula ap).1).length / 2 : Nat) c89), (10, .int .i64 (1 + (((F_NotFormula ap).1).length : Int))), (12, .slice b391 (((F_NotFormula ap).1).length / 2 : Nat) c392), (13, .int .i64 ((F_NotFormula ap).2))]) ⟨rfl, rfl, rfl, rfl, rfl, rfl, trivial⟩; clear hE404
                  refine p_tn ?_
                  refine c_seq ?_
                  refine c_cut (fun a' w' => E a' 96 [(7, .slice b88 (((F_NotFormula ap).1).length / 2 : Nat) c89), (10, .int .i64 (1 + (((F_NotFormula ap).1).length : Int))), (87, .bool ((!(decide (((F_NotFormula ap).1) = ((F_s_NotFormula ap).1)))) || (!decide (((F_NotFormula ap).2) = ((F_s_NotFormula ap).2)))))] ∧ St w w' [.own 94 2 b391 (((F_NotFormula ap).1).length / 2 : Nat) c392 ((F_NotFormula ap).1), .own 94 2 b382 ((ap).length / 2 : Nat) c383 ap, .own 94 2 b88 (((F_NotFormula ap).1).length / 2 : Nat) c89 (marked ((F_NotFormula ap).1).length 1), .own 94 2 b74 ((ap).length / 2 : Nat) c75 (marked ap.length 1), .own 94 2 b173 ((ap).length / 2 : Nat) c174 ap, .own 94 2 b52 (((F_s_NotFormula ap).1).length / 2 : Nat) c53 ((F_s_NotFormula ap).1), .own 94 2 b43 ((ap).length / 2 : Nat) c44 ap, .rd 2 apA ((ap).length / 2 : Nat) apC ap]) ?_ ?_
                  ·
                    refine c_reg ?_
                    refine q_step (v := .slice b391 (((F_NotFormula ap).1).length / 2 : Nat) c392) hE405 (y_move rfl) rfl rfl rfl ?_; intro a406 hE407; clear hE405
                    refine q_step (v := .slice b52 (((F_s_NotFormula ap).1).length / 2 : Nat) c53) hE407 (y_move rfl) rfl rfl rfl ?_; intro a408 hE409; clear hE407
                    refine l_step hE409 rfl (l_call (f := 24) (argv := [.slice b391 (((F_NotFormula ap).1).length / 2 : Nat) c392, .slice b52 (((F_s_NotFormula ap).1).length / 2 : Nat) c53]) hE409 (fun _ => cf_l_eqNodeS _ _) rfl rfl (d_l_eqNodeS b391 (((F_NotFormula ap).1).length / 2 : Nat) c392 ((F_NotFormula ap).1) b52 (((F_s_NotFormula ap).1).length / 2 : Nat) c53 ((F_s_NotFormula ap).1) w386 (St.rdO (i := 0) hS389 rfl) (St.rdO (i := 5) hS389 rfl)) ?_)
                    rintro _ w411 ⟨rfl, he415⟩ a412 hE413; clear hE409
                    have hS414 := St.go hS389 he415; clear hS389
                    refine q_step (v := .bool (!(decide (((F_NotFormula ap).1) = ((F_s_NotFormula ap).1))))) hE413 (y_not rfl) rfl rfl rfl ?_; intro a416 hE417; clear hE413
                    refine q_step (v := .bool (!(decide (((F_NotFormula ap).1) = ((F_s_NotFormula ap).1))))) hE417 (y_move rfl) rfl rfl rfl ?_; intro a418 hE419; clear hE417
                    rcases Bool.eq_false_or_eq_true (!(decide (((F_NotFormula ap).1) = ((F_s_NotFormula ap).1)))) with hb420 | hb420
                    ·
                      have hE421 := hE419; (try rw [hb420] at hE421); clear hE419
                      have ht422 := bn_t hb420
                      have hp423 := of_decide_eq_false ht422
                      refine q_skip hE421 rfl rfl rfl ?_; intro a424 hE425; clear hE421
                      refine q_skip hE425 rfl rfl rfl ?_; intro a426 hE427; clear hE425
                      refine q_skip hE427 rfl rfl rfl ?_; intro a428 hE429; clear hE427
                      refine q_step (v := .bool true) hE429 (y_pick (b := true) rfl rfl) rfl rfl rfl ?_; intro a430 hE431; clear hE429
                      refine c_nil ?_
                      have hE432 := hE431.sub (L' := [(7, .slice b88 (((F_NotFormula ap).1).length / 2 : Nat) c89), (10, .int .i64 (1 + (((F_NotFormula ap).1).length : Int))), (87, .bool true)]) ⟨rfl, rfl, rfl, trivial⟩; clear hE431
                      refine p_tn ?_
                      have hE433 := hE432.sub (L' := [(7, .slice b88 (((F_NotFormula ap).1).length / 2 : Nat) c89), (10, .int .i64 (1 + (((F_NotFormula ap).1).length : Int))), (87, .bool true)]) ⟨rfl, rfl, rfl, trivial⟩
                      have hS434 := (St.pick (Γ' := [.own 94 2 b391 (((F_NotFormula ap).1).length / 2 : Nat) c392 ((F_NotFormula ap).1), .own 94 2 b382 ((ap).length / 2 : Nat) c383 ap, .own 94 2 b88 (((F_NotFormula ap).1).length / 2 : Nat) c89 (marked ((F_NotFormula ap).1).length 1), .own 94 2 b74 ((ap).length / 2 : Nat) c75 (marked ap.length 1), .own 94 2 b173 ((ap).length / 2 : Nat) c174 ap, .own 94 2 b52 (((F_s_NotFormula ap).1).length / 2 : Nat) c53 ((F_s_NotFormula ap).1), .own 94 2 b43 ((ap).length / 2 : Nat) c44 ap, .rd 2 apA ((ap).length / 2 : Nat) apC ap]) hS414 [0, 1, 2, 3, 4, 5, 6, 7] (by decide) rfl)
                      exact ⟨(by rw [hb420]; exact hE433), hS434⟩
                    ·
                      have hE435 := hE419; (try rw [hb420] at hE435); clear hE419
                      have ht436 := bn_f hb420
                      have hp437 := of_decide_eq_true ht436
                      refine q_step (v := .int .i64 ((F_NotFormula ap).2)) hE435 (y_move rfl) rfl rfl rfl ?_; intro a438 hE439; clear hE435
                      refine q_step (v := .int .i64 ((F_s_NotFormula ap).2)) hE439 (y_move rfl) rfl rfl rfl ?_; intro a440 hE441; clear hE439
                      refine q_step (v := .bool (!decide (((F_NotFormula ap).2) = ((F_s_NotFormula ap).2)))) hE441 (y_neq rfl rfl) rfl rfl rfl ?_; intro a442 hE443; clear hE441
                      refine q_step (v := .bool (!decide (((F_NotFormula ap).2) = ((F_s_NotFormula ap).2)))) hE443 (y_pick (b := false) rfl rfl) rfl rfl rfl ?_; intro a444 hE445; clear hE443
                      refine c_nil ?_
                      have hE446 := hE445.sub (L' := [(7, .slice b88 (((F_NotFormula ap).1).length / 2 : Nat) c89), (10, .int .i64 (1 + (((F_NotFormula ap).1).length : Int))), (87, .bool (!decide (((F_NotFormula ap).2) = ((F_s_NotFormula ap).2))))]) ⟨rfl, rfl, rfl, trivial⟩; clear hE445
                      refine p_tn ?_
                      have hE447 := hE446.sub (L' := [(7, .slice b88 (((F_NotFormula ap).1).length / 2 : Nat) c89), (10, .int .i64 (1 + (((F_NotFormula ap).1).length : Int))), (87, .bool (!decide (((F_NotFormula ap).2) = ((F_s_NotFormula ap).2))))]) ⟨rfl, rfl, rfl, trivial⟩
                      have hS448 := (St.pick (Γ' := [.own 94 2 b391 (((F_NotFormula ap).1).length / 2 : Nat) c392 ((F_NotFormula ap).1), .own 94 2 b382 ((ap).length / 2 : Nat) c383 ap, .own 94 2 b88 (((F_NotFormula ap).1).length / 2 : Nat) c89 (marked ((F_NotFormula ap).1).length 1), .own 94 2 b74 ((ap).length / 2 : Nat) c75 (marked ap.length 1), .own 94 2 b173 ((ap).length / 2 : Nat) c174 ap, .own 94 2 b52 (((F_s_NotFormula ap).1).length / 2 : Nat) c53 ((F_s_NotFormula ap).1), .own 94 2 b43 ((ap).length / 2 : Nat) c44 ap, .rd 2 apA ((ap).length / 2 : Nat) apC ap]) hS414 [0, 1, 2, 3, 4, 5, 6, 7] (by decide) rfl)
                      exact ⟨(by rw [hb420]; exact hE447), hS448⟩
                  ·
                    rintro a449 w450 ⟨hE451, hS452⟩; clear hE405 hS389
                    have hE454 := hE451; rw [ht151] at hE454; clear hE451
                    refine c_false hE454 rfl ?_
                    refine wp_skip ?_
                    refine p_tn ?_
                    refine c_seq ?_
                    refine c_reg ?_
                    refine q_step (v := .int .i64 1) hE454 (y_assign rfl) rfl rfl rfl ?_; intro a455 hE456; clear hE454
                    refine c_nil ?_
                    have hE457 := hE456.sub (L' := [(7, .slice b88 (((F_NotFormula ap).1).length / 2 : Nat) c89), (10, .int .i64 (1 + (((F_NotFormula ap).1).length : Int))), (11, .int .i64 1)]) ⟨rfl, rfl, rfl, trivial⟩; clear hE456
                    refine p_tn ?_
                    refine c_seq ?_
                    refine c_reg ?_
                    refine q_step (v := .slice b88 (((F_NotFormula ap).1).length / 2 : Nat) c89) hE457 (y_move rfl) rfl rfl rfl ?_; intro a458 hE459; clear hE457
                    refine q_step (v := .int .i64 1) hE459 (y_move rfl) rfl rfl rfl ?_; intro a460 hE461; clear hE459
                    refine l_step hE461 rfl (l_call (f := 30) (argv := [.slice b88 (((F_NotFormula ap).1).length / 2 : Nat) c89, .int .i64 1]) hE461 (fun _ => cf_l_heldNodeS _ _) rfl rfl (c_l_heldNodeS b88 (((F_NotFormula ap).1).length / 2 : Nat) c89 (marked ((F_NotFormula ap).1).length 1) 1 w450 (St.rdO (i := 2) hS452 rfl) (by first | omega | (simp only [marked_len]; omega) | (simp only [marked_len] at *; omega)) (by first | omega | (simp only [marked_len]; omega) | (simp only [marked_len] at *; omega)) (by first | omega | (simp only [marked_len]; omega) | (simp only [marked_len] at *; omega))) ?_)
                    rintro _ w463 ⟨rfl, he467⟩ a464 hE465; clear hE461
                    have hS466 := St.go hS452 he467; clear hS452
                    refine q_step (v := .int .i64 (F_l_heldNodeS (marked ((F_NotFormula ap).1).length 1) 1)) hE465 (y_assign rfl) rfl rfl rfl ?_; intro a468 hE469; clear hE465
                    refine c_nil ?_
                    have hE470 := hE469.sub (L' := [(10, .int .i64 (1 + (((F_NotFormula ap).1).length : Int))), (11, .int .i64 (F_l_heldNodeS (marked ((F_NotFormula ap).1).length 1) 1))]) ⟨rfl, rfl, trivial⟩; clear hE469
                    refine p_tn ?_
                    refine c_seq ?_
                    refine c_seq ?_
                    refine c_reg ?_
                    refine q_step (v := .int .i64 (F_l_heldNodeS (marked ((F_NotFormula ap).1).length 1) 1)) hE470 (y_move rfl) rfl rfl rfl ?_; intro a471 hE472; clear hE470
                    refine q_step (v := .bool (decide ((F_l_heldNodeS (marked ((F_NotFormula ap).1).length 1) 1) < 0))) hE472 (y_lss rfl rfl) rfl rfl rfl ?_; intro a473 hE474; clear hE472
                    refine c_nil ?_
                    have hE475 := hE474.sub (L' := [(10, .int .i64 (1 + (((F_NotFormula ap).1).length : Int))), (11, .int .i64 (F_l_heldNodeS (marked ((F_NotFormula ap).1).length 1) 1)), (92, .bool (decide ((F_l_heldNodeS (marked ((F_NotFormula ap).1).length 1) 1) < 0)))]) ⟨rfl, rfl, rfl, trivial⟩; clear hE474
                    refine p_tn ?_
                    have hE476 := hE475; rw [ht349] at hE476; clear hE475
                    refine c_false hE476 rfl ?_
                    refine wp_skip ?_
                    refine p_tn ?_
                    refine c_seq ?_
                    refine c_seq ?_
                    refine c_reg ?_
                    refine q_step (v := .int .i64 (F_l_heldNodeS (marked ((F_NotFormula ap).1).length 1) 1)) hE476 (y_move rfl) rfl rfl rfl ?_; intro a477 hE478; clear hE476
                    refine q_step (v := .int .i64 (1 + (((F_NotFormula ap).1).length : Int))) hE478 (y_move rfl) rfl rfl rfl ?_; intro a479 hE480; clear hE478
                    refine q_step (v := .bool (!decide ((F_l_heldNodeS (marked ((F_NotFormula ap).1).length 1) 1) = (1 + (((F_NotFormula ap).1).length : Int))))) hE480 (y_neq rfl rfl) rfl rfl rfl ?_; intro a481 hE482; clear hE480
                    refine c_nil ?_
                    have hE483 := hE482.sub (L' := [(95, .bool (!decide ((F_l_heldNodeS (marked ((F_NotFormula ap).1).length 1) 1) = (1 + (((F_NotFormula ap).1).length : Int)))))]) ⟨rfl, trivial⟩; clear hE482
                    refine p_tn ?_
                    have hE484 := hE483; rw [ht364] at hE484; clear hE483
                    refine c_false hE484 rfl ?_
                    refine wp_skip ?_
                    refine p_tn ?_
                    refine c_seq ?_
                    refine c_reg ?_
                    refine q_step (v := .bool true) hE484 (y_assign rfl) rfl rfl rfl ?_; intro a485 hE486; clear hE484
                    refine c_nil ?_
                    have hE487 := hE486.sub (L' := [(2, .bool true)]) ⟨rfl, trivial⟩; clear hE486
                    refine p_tn ?_
                    refine wp_ret ?_
                    have hF : F_l_FnExactNotFormula ap = true := by unfold F_l_FnExactNotFormula; rw [ht364, ht349, ht296, ht185, ht151, ht26]; first | done | rfl
                    refine c_ret1 hE487 rfl rfl ?_
                    exact ⟨(by rw [hF]; first | done | rfl), hS466.ext⟩

theorem NotFormula_ev (ap : List Int) (he : ap.length = ap.length / 2 * 2) : (F_s_NotFormula ap).1.length = (F_s_NotFormula ap).1.length / 2 * 2 := by
  unfold F_s_NotFormula
  by_cases h : 40 < (((F_l02Not ap).length / 2 : Nat) : Int)
  · cases F_l02Is ap <;> simp only [decide_eq_true h, Bool.not_true, Bool.not_false, cond_true, cond_false, List.length_nil]
  · have := l02Not_len ap
    cases F_l02Is ap <;> simp only [decide_eq_false h, Bool.not_true, Bool.not_false, cond_true, cond_false, List.length_nil]
    omega
theorem FnExactNotFormula_true (ap : List Int) (he : ap.length = ap.length / 2 * 2) : F_l_FnExactNotFormula ap = true := by
  have hv := NotFormula_ev ap he
  unfold F_l_FnExactNotFormula
  rw [NotFormula_eq]
  rw [heldNodeS_eq _ _ hv]
  simp
  omega


end Go.Proofs.Ytkilkfhjfobcdaa
