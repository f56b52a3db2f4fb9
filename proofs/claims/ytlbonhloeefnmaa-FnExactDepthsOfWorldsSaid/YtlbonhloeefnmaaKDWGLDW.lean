/- GLDW: models and contracts, printed by wip/gen/gen.py -/
import Derived.Test.YtlbonhloeefnmaaKDWGA
import Derived.Test.YtlbonhloeefnmaaKDWGDWM
set_option linter.unusedVariables false
set_option linter.unusedSimpArgs false
namespace Go.Proofs.Ytlbonhloeefnmaa
open Go.RowKit
def F_l_FnExactDepthsOfWorlds (aF0 : Int) (aF1 : List Int) : Bool :=
  bif (decide ((F_l_szFrame aF0 aF1 1048576) < 0)) then true else (bif ((!(decide (((F_DepthsOfWorlds aF0 aF1).1) = ((F_s_DepthsOfWorlds aF0 aF1).1)))) || (!decide (((F_DepthsOfWorlds aF0 aF1).2) = ((F_s_DepthsOfWorlds aF0 aF1).2)))) then false else (bif (!(decide ((aF0, aF1) = (aF0, aF1)))) then false else (bif ((decide ((1 + (aF1.length : Int)) < 0)) || ((!(decide (((F_DepthsOfWorlds aF0 aF1).1) = ((F_s_DepthsOfWorlds aF0 aF1).1)))) || (!decide (((F_DepthsOfWorlds aF0 aF1).2) = ((F_s_DepthsOfWorlds aF0 aF1).2))))) then false else (bif (decide ((F_l_heldInt64S (marked ((F_DepthsOfWorlds aF0 aF1).1).length 1) 1) < 0)) then false else (bif (!decide ((F_l_heldInt64S (marked ((F_DepthsOfWorlds aF0 aF1).1).length 1) 1) = (1 + (((F_DepthsOfWorlds aF0 aF1).1).length : Int)))) then false else true)))))
set_option maxRecDepth 100000 in
theorem c_l_FnExactDepthsOfWorlds (aF0 : Int) (aF1A : Option Addr) (aF1N aF1C : Nat) (aF1 : List Int) (w : World) (aF1R : RdS w 1 aF1A aF1N aF1C aF1) :
    Calls Try.prog 6 #[.agg #[.int .i64 aF0, .slice aF1A aF1N aF1C]] w (Ret fun v w' => v = .bool (F_l_FnExactDepthsOfWorlds aF0 aF1) ∧ Ext w w') := by
  obtain rfl : aF1N = aF1.length := aF1R.len1.symm
  have aF1Le := aF1R.le
  have hS := St.nil w
  have hS1 := St.rd0 hS rfl aF1R; clear hS
  refine enter (args := [.agg #[.int .i64 aF0, .slice aF1A aF1.length aF1C]]) Try.func6 rfl rfl ?_
  rw [Try.ntmps6]; intro a hE
  have hE := hE.sub (L' := [(0, .agg #[.int .i64 aF0, .slice aF1A aF1.length aF1C])]) ⟨rfl, trivial⟩
  refine c_seq ?_
  refine c_reg ?_
  refine l_step hE rfl (l_box (v := .agg #[.int .i64 aF0, .slice aF1A aF1.length aF1C]) (cs := #[.int .i64 aF0, .slice aF1A aF1.length aF1C]) hS1 hE rfl rfl rfl ?_)
  intro b2 w3 hS6 he7 a4 hE5; clear hS1 hE
  refine q_step (v := .bool false) hE5 (y_assign rfl) rfl rfl rfl ?_; intro a8 hE9; clear hE5
  refine c_nil ?_
  have hE10 := hE9.sub (L' := [(1, .pointer (some ⟨b2, 0, none⟩))]) ⟨rfl, trivial⟩; clear hE9
  refine p_tn ?_
  refine c_seq ?_
  refine c_reg ?_
  refine q_step (v := .int .i64 1048576) hE10 (y_assign rfl) rfl rfl rfl ?_; intro a11 hE12; clear hE10
  refine c_nil ?_
  have hE13 := hE12.sub (L' := [(1, .pointer (some ⟨b2, 0, none⟩)), (3, .int .i64 1048576)]) ⟨rfl, rfl, trivial⟩; clear hE12
  refine p_tn ?_
  refine c_seq ?_
  refine c_reg ?_
  refine q_step (v := .agg #[.int .i64 aF0, .slice aF1A aF1.length aF1C]) hE13 (y_loadS Try.underlying24 rfl (by kernel_rfl) rfl (St.row (i := 0) hS6 rfl)) rfl rfl rfl ?_; intro a14 hE15; clear hE13
  refine q_step (v := .int .i64 1048576) hE15 (y_move rfl) rfl rfl rfl ?_; intro a16 hE17; clear hE15
  refine l_step hE17 rfl (l_call (f := 28) (argv := [.agg #[.int .i64 aF0, .slice aF1A aF1.length aF1C], .int .i64 1048576]) hE17 (fun _ => cf_l_szFrame _ _) rfl rfl (c_l_szFrame aF0 aF1A aF1.length aF1C aF1 1048576 w3 (St.rdR (i := 1) hS6 rfl) (by first | omega | (simp only [marked_len]; omega) | (simp only [marked_len] at *; omega)) (by first | omega | (simp only [marked_len]; omega) | (simp only [marked_len] at *; omega))) ?_)
  rintro _ w19 ⟨rfl, he23⟩ a20 hE21; clear hE17
  have hS22 := St.go hS6 he23; clear hS6
  refine q_step (v := .int .i64 (F_l_szFrame aF0 aF1 1048576)) hE21 (y_assign rfl) rfl rfl rfl ?_; intro a24 hE25; clear hE21
  refine c_nil ?_
  have hE26 := hE25.sub (L' := [(1, .pointer (some ⟨b2, 0, none⟩)), (3, .int .i64 (F_l_szFrame aF0 aF1 1048576))]) ⟨rfl, rfl, trivial⟩; clear hE25
  refine p_tn ?_
  refine c_seq ?_
  refine c_seq ?_
  refine c_reg ?_
  refine q_step (v := .int .i64 (F_l_szFrame aF0 aF1 1048576)) hE26 (y_move rfl) rfl rfl rfl ?_; intro a27 hE28; clear hE26
  refine q_step (v := .bool (decide ((F_l_szFrame aF0 aF1 1048576) < 0))) hE28 (y_lss rfl rfl) rfl rfl rfl ?_; intro a29 hE30; clear hE28
  refine c_nil ?_
  have hE31 := hE30.sub (L' := [(1, .pointer (some ⟨b2, 0, none⟩)), (18, .bool (decide ((F_l_szFrame aF0 aF1 1048576) < 0)))]) ⟨rfl, rfl, trivial⟩; clear hE30
  refine p_tn ?_
  refine c_cond hE31 rfl (fun ht32 => ?_) (fun ht32 => ?_)
  ·
   have hp33 := of_decide_eq_true ht32
   have hE34 := hE31; rw [ht32] at hE34; clear hE31
   refine c_seq ?_
   refine c_reg ?_
   refine q_step (v := .bool true) hE34 (y_assign rfl) rfl rfl rfl ?_; intro a35 hE36; clear hE34
   refine c_nil ?_
   have hE37 := hE36.sub (L' := [(2, .bool true)]) ⟨rfl, trivial⟩; clear hE36
   refine p_tn ?_
   refine wp_ret ?_
   refine p_tr ?_
   have hF : F_l_FnExactDepthsOfWorlds aF0 aF1 = true := by unfold F_l_FnExactDepthsOfWorlds; rw [ht32]; first | done | rfl
   refine c_ret1 hE37 rfl rfl ?_
   exact ⟨(by rw [hF]; first | done | (dsimp only; done) | rfl), hS22.ext⟩
  ·
   have hp38 := of_decide_eq_false ht32
   have hq39 := szFrame_bound hp38
   have hE40 := hE31; rw [ht32] at hE40; clear hE31
   refine wp_skip ?_
   refine p_tn ?_
   refine c_seq ?_
   refine c_reg ?_
   refine q_step (v := .agg #[.int .i64 aF0, .slice aF1A aF1.length aF1C]) hE40 (y_loadS Try.underlying24 rfl (by kernel_rfl) rfl (St.row (i := 0) hS22 rfl)) rfl rfl rfl ?_; intro a41 hE42; clear hE40
   refine l_step hE42 rfl (l_call (f := 30) (argv := [.agg #[.int .i64 aF0, .slice aF1A aF1.length aF1C]]) hE42 (fun _ => cf_l_toFrame _ _) rfl rfl (d_l_toFrame aF0 aF1A aF1.length aF1C aF1 w19 (St.rdR (i := 1) hS22 rfl) (by first | omega | (simp only [marked_len]; omega) | (simp only [marked_len] at *; omega))) ?_)
   rintro _ w44 ⟨b49, c50, rfl, ho51, he48⟩ a45 hE46; clear hE42
   have hS47 := St.own hS22 he48 ho51; clear hS22
   refine l_step hE46 rfl (l_call (f := 29) (argv := [.agg #[.int .i64 aF0, .slice b49 ((aF1).length) c50]]) hE46 (fun _ => cf_s_DepthsOfWorlds _ _) rfl rfl (c_s_DepthsOfWorlds aF0 b49 ((aF1).length) c50 aF1 w44 (St.rdO (i := 0) hS47 rfl)) ?_)
   rintro _ w53 ⟨b58, c59, rfl, ho60, he57⟩ a54 hE55; clear hE46
   have hS56 := St.own hS47 he57 ho60; clear hS47
   refine q_step (v := .tuple #[.slice b58 (((F_s_DepthsOfWorlds aF0 aF1).1).length) c59, .int .i64 ((F_s_DepthsOfWorlds aF0 aF1).2)]) hE55 (y_move rfl) rfl rfl rfl ?_; intro a61 hE62; clear hE55
   refine q_step (v := .slice b58 (((F_s_DepthsOfWorlds aF0 aF1).1).length) c59) hE62 (y_extract rfl rfl) rfl rfl rfl ?_; intro a63 hE64; clear hE62
   refine q_step (v := .int .i64 ((F_s_DepthsOfWorlds aF0 aF1).2)) hE64 (y_extract rfl rfl) rfl rfl rfl ?_; intro a65 hE66; clear hE64
   refine q_step (v := .slice b58 (((F_s_DepthsOfWorlds aF0 aF1).1).length) c59) hE66 (y_assign rfl) rfl rfl rfl ?_; intro a67 hE68; clear hE66
   refine q_step (v := .int .i64 ((F_s_DepthsOfWorlds aF0 aF1).2)) hE68 (y_assign rfl) rfl rfl rfl ?_; intro a69 hE70; clear hE68
   refine c_nil ?_
   have hE71 := hE70.sub (L' := [(1, .pointer (some ⟨b2, 0, none⟩)), (4, .slice b58 (((F_s_DepthsOfWorlds aF0 aF1).1).length) c59), (5, .int .i64 ((F_s_DepthsOfWorlds aF0 aF1).2))]) ⟨rfl, rfl, rfl, trivial⟩; clear hE70
   refine p_tn ?_
   refine c_seq ?_
   refine c_reg ?_
   refine q_step (v := .agg #[.int .i64 aF0, .slice aF1A aF1.length aF1C]) hE71 (y_loadS Try.underlying24 rfl (by kernel_rfl) rfl (St.row (i := 2) hS56 rfl)) rfl rfl rfl ?_; intro a72 hE73; clear hE71
   refine l_step hE73 rfl (l_call (f := 30) (argv := [.agg #[.int .i64 aF0, .slice aF1A aF1.length aF1C]]) hE73 (fun _ => cf_l_toFrame _ _) rfl rfl (d_l_toFrame aF0 aF1A aF1.length aF1C aF1 w53 (St.rdR (i := 3) hS56 rfl) (by first | omega | (simp only [marked_len]; omega) | (simp only [marked_len] at *; omega))) ?_)
   rintro _ w75 ⟨b80, c81, rfl, ho82, he79⟩ a76 hE77; clear hE73
   have hS78 := St.own hS56 he79 ho82; clear hS56
   refine l_step hE77 rfl (l_alloc (z := .agg #[.int .i64 0, .slice none 0 0]) (cs := #[.int .i64 0, .slice none 0 0]) hS78 hE77 (fun _ => by kernel_rfl) rfl rfl ?_)
   intro b83 w84 hS87 he88 a85 hE86; clear hS78 hE77
   refine l_step hE86 rfl (l_storeS (k := 0) (cs' := #[.int .i64 aF0, .slice b80 ((aF1).length) c81]) hS87 hE86 (by kernel_rfl) rfl rfl (by kernel_rfl) rfl rfl ?_)
   intro w90 hS93 a91 hE92; clear hS87 hE86
   refine c_nil ?_
   have hE95 := hE92.sub (L' := [(1, .pointer (some ⟨b2, 0, none⟩)), (4, .slice b58 (((F_s_DepthsOfWorlds aF0 aF1).1).length) c59), (5, .int .i64 ((F_s_DepthsOfWorlds aF0 aF1).2)), (6, .pointer (some ⟨b83, 0, none⟩))]) ⟨rfl, rfl, rfl, rfl, trivial⟩; clear hE92
   refine p_tn ?_
   refine c_seq ?_
   refine c_reg ?_
   refine q_step (v := .agg #[.int .i64 aF0, .slice b80 ((aF1).length) c81]) hE95 (y_loadS Try.underlying30 rfl (by kernel_rfl) rfl (St.row (i := 0) hS93 rfl)) rfl rfl rfl ?_; intro a96 hE97; clear hE95
   refine l_step hE97 rfl (l_call (f := 31) (argv := [.agg #[.int .i64 aF0, .slice b80 ((aF1).length) c81]]) hE97 (fun _ => cf_DepthsOfWorlds _ _) rfl rfl (c_DepthsOfWorlds aF0 b80 ((aF1).length) c81 aF1 w90 (St.rdO (i := 1) hS93 rfl)) ?_)
   rintro _ w99 ⟨b104, c105, rfl, ho106, he103⟩ a100 hE101; clear hE97
   have hf107 := DepthsOfWorlds_len aF0 aF1
   have hS102 := St.own hS93 he103 ho106; clear hS93
   refine q_step (v := .tuple #[.slice b104 (((F_DepthsOfWorlds aF0 aF1).1).length) c105, .int .i64 ((F_DepthsOfWorlds aF0 aF1).2)]) hE101 (y_move rfl) rfl rfl rfl ?_; intro a108 hE109; clear hE101
   refine q_step (v := .slice b104 (((F_DepthsOfWorlds aF0 aF1).1).length) c105) hE109 (y_extract rfl rfl) rfl rfl rfl ?_; intro a110 hE111; clear hE109
   refine q_step (v := .int .i64 ((F_DepthsOfWorlds aF0 aF1).2)) hE111 (y_extract rfl rfl) rfl rfl rfl ?_; intro a112 hE113; clear hE111
   refine q_step (v := .slice b104 (((F_DepthsOfWorlds aF0 aF1).1).length) c105) hE113 (y_assign rfl) rfl rfl rfl ?_; intro a114 hE115; clear hE113
   refine q_step (v := .int .i64 ((F_DepthsOfWorlds aF0 aF1).2)) hE115 (y_assign rfl) rfl rfl rfl ?_; intro a116 hE117; clear hE115
   refine c_nil ?_
   have hE118 := hE117.sub (L' := [(1, .pointer (some ⟨b2, 0, none⟩)), (4, .slice b58 (((F_s_DepthsOfWorlds aF0 aF1).1).length) c59), (5, .int .i64 ((F_s_DepthsOfWorlds aF0 aF1).2)), (6, .pointer (some ⟨b83, 0, none⟩)), (7, .slice b104 (((F_DepthsOfWorlds aF0 aF1).1).length) c105), (8, .int .i64 ((F_DepthsOfWorlds aF0 aF1).2))]) ⟨rfl, rfl, rfl, rfl, rfl, rfl, trivial⟩; clear hE117
   refine p_tn ?_
   refine c_seq ?_
   refine c_cut (fun a' w' => E a' 96 [(1, .pointer (some ⟨b2, 0, none⟩)), (4, .slice b58 (((F_s_DepthsOfWorlds aF0 aF1).1).length) c59), (5, .int .i64 ((F_s_DepthsOfWorlds aF0 aF1).2)), (6, .pointer (some ⟨b83, 0, none⟩)), (7, .slice b104 (((F_DepthsOfWorlds aF0 aF1).1).length) c105), (8, .int .i64 ((F_DepthsOfWorlds aF0 aF1).2)), (40, .bool ((!(decide (((F_DepthsOfWorlds aF0 aF1).1) = ((F_s_DepthsOfWorlds aF0 aF1).1)))) || (!decide (((F_DepthsOfWorlds aF0 aF1).2) = ((F_s_DepthsOfWorlds aF0 aF1).2)))))] ∧ St w w' [.own 2 1 b104 (((F_DepthsOfWorlds aF0 aF1).1).length) c105 ((F_DepthsOfWorlds aF0 aF1).1), .own 2 1 b80 ((aF1).length) c81 aF1, .blk b83 #[.int .i64 aF0, .slice b80 ((aF1).length) c81] 30, .own 2 1 b58 (((F_s_DepthsOfWorlds aF0 aF1).1).length) c59 ((F_s_DepthsOfWorlds aF0 aF1).1), .own 2 1 b49 ((aF1).length) c50 aF1, .rd 1 aF1A aF1.length aF1C aF1, .blk b2 #[.int .i64 aF0, .slice aF1A aF1.length aF1C] 24]) ?_ ?_
   ·
    refine c_reg ?_
    refine q_step (v := .slice b104 (((F_DepthsOfWorlds aF0 aF1).1).length) c105) hE118 (y_move rfl) rfl rfl rfl ?_; intro a119 hE120; clear hE118
    refine q_step (v := .slice b58 (((F_s_DepthsOfWorlds aF0 aF1).1).length) c59) hE120 (y_move rfl) rfl rfl rfl ?_; intro a121 hE122; clear hE120
    refine l_step hE122 rfl (l_call (f := 19) (argv := [.slice b104 (((F_DepthsOfWorlds aF0 aF1).1).length) c105, .slice b58 (((F_s_DepthsOfWorlds aF0 aF1).1).length) c59]) hE122 (fun _ => cf_l_eqInt64S _ _) rfl rfl (d_l_eqInt64S b104 (((F_DepthsOfWorlds aF0 aF1).1).length) c105 ((F_DepthsOfWorlds aF0 aF1).1) b58 (((F_s_DepthsOfWorlds aF0 aF1).1).length) c59 ((F_s_DepthsOfWorlds aF0 aF1).1) w99 (St.rdO (i := 0) hS102 rfl) (St.rdO (i := 3) hS102 rfl)) ?_)
    rintro _ w124 ⟨rfl, he128⟩ a125 hE126; clear hE122
    have hS127 := St.go hS102 he128; clear hS102
    refine q_step (v := .bool (!(decide (((F_DepthsOfWorlds aF0 aF1).1) = ((F_s_DepthsOfWorlds aF0 aF1).1))))) hE126 (y_not rfl) rfl rfl rfl ?_; intro a129 hE130; clear hE126
    refine q_step (v := .bool (!(decide (((F_DepthsOfWorlds aF0 aF1).1) = ((F_s_DepthsOfWorlds aF0 aF1).1))))) hE130 (y_move rfl) rfl rfl rfl ?_; intro a131 hE132; clear hE130
    rcases Bool.eq_false_or_eq_true (!(decide (((F_DepthsOfWorlds aF0 aF1).1) = ((F_s_DepthsOfWorlds aF0 aF1).1)))) with hb133 | hb133
    ·
     have hE134 := hE132; (try rw [hb133] at hE134); clear hE132
     have ht135 := bn_t hb133
     have hp136 := of_decide_eq_false ht135
     refine q_skip hE134 rfl rfl rfl ?_; intro a137 hE138; clear hE134
     refine q_skip hE138 rfl rfl rfl ?_; intro a139 hE140; clear hE138
     refine q_skip hE140 rfl rfl rfl ?_; intro a141 hE142; clear hE140
     refine q_step (v := .bool true) hE142 (y_pick (b := true) rfl rfl) rfl rfl rfl ?_; intro a143 hE144; clear hE142
     refine c_nil ?_
     have hE145 := hE144.sub (L' := [(1, .pointer (some ⟨b2, 0, none⟩)), (4, .slice b58 (((F_s_DepthsOfWorlds aF0 aF1).1).length) c59), (5, .int .i64 ((F_s_DepthsOfWorlds aF0 aF1).2)), (6, .pointer (some ⟨b83, 0, none⟩)), (7, .slice b104 (((F_DepthsOfWorlds aF0 aF1).1).length) c105), (8, .int .i64 ((F_DepthsOfWorlds aF0 aF1).2)), (40, .bool true)]) ⟨rfl, rfl, rfl, rfl, rfl, rfl, rfl, trivial⟩; clear hE144
     refine p_tn ?_
     have hE146 := hE145.sub (L' := [(1, .pointer (some ⟨b2, 0, none⟩)), (4, .slice b58 (((F_s_DepthsOfWorlds aF0 aF1).1).length) c59), (5, .int .i64 ((F_s_DepthsOfWorlds aF0 aF1).2)), (6, .pointer (some ⟨b83, 0, none⟩)), (7, .slice b104 (((F_DepthsOfWorlds aF0 aF1).1).length) c105), (8, .int .i64 ((F_DepthsOfWorlds aF0 aF1).2)), (40, .bool true)]) ⟨rfl, rfl, rfl, rfl, rfl, rfl, rfl, trivial⟩
     have hS147 := (St.pick (Γ' := [.own 2 1 b104 (((F_DepthsOfWorlds aF0 aF1).1).length) c105 ((F_DepthsOfWorlds aF0 aF1).1), .own 2 1 b80 ((aF1).length) c81 aF1, .blk b83 #[.int .i64 aF0, .slice b80 ((aF1).length) c81] 30, .own 2 1 b58 (((F_s_DepthsOfWorlds aF0 aF1).1).length) c59 ((F_s_DepthsOfWorlds aF0 aF1).1), .own 2 1 b49 ((aF1).length) c50 aF1, .rd 1 aF1A aF1.length aF1C aF1, .blk b2 #[.int .i64 aF0, .slice aF1A aF1.length aF1C] 24]) hS127 [0, 2, 1, 3, 4, 6, 5] (by decide) rfl)
     exact ⟨(by rw [hb133]; exact hE146), hS147⟩
    ·
     have hE148 := hE132; (try rw [hb133] at hE148); clear hE132
     have ht149 := bn_f hb133
     have hp150 := of_decide_eq_true ht149
     refine q_step (v := .int .i64 ((F_DepthsOfWorlds aF0 aF1).2)) hE148 (y_move rfl) rfl rfl rfl ?_; intro a151 hE152; clear hE148
     refine q_step (v := .int .i64 ((F_s_DepthsOfWorlds aF0 aF1).2)) hE152 (y_move rfl) rfl rfl rfl ?_; intro a153 hE154; clear hE152
     refine q_step (v := .bool (!decide (((F_DepthsOfWorlds aF0 aF1).2) = ((F_s_DepthsOfWorlds aF0 aF1).2)))) hE154 (y_neq rfl rfl) rfl rfl rfl ?_; intro a155 hE156; clear hE154
     refine q_step (v := .bool (!decide (((F_DepthsOfWorlds aF0 aF1).2) = ((F_s_DepthsOfWorlds aF0 aF1).2)))) hE156 (y_pick (b := false) rfl rfl) rfl rfl rfl ?_; intro a157 hE158; clear hE156
     refine c_nil ?_
     have hE159 := hE158.sub (L' := [(1, .pointer (some ⟨b2, 0, none⟩)), (4, .slice b58 (((F_s_DepthsOfWorlds aF0 aF1).1).length) c59), (5, .int .i64 ((F_s_DepthsOfWorlds aF0 aF1).2)), (6, .pointer (some ⟨b83, 0, none⟩)), (7, .slice b104 (((F_DepthsOfWorlds aF0 aF1).1).length) c105), (8, .int .i64 ((F_DepthsOfWorlds aF0 aF1).2)), (40, .bool (!decide (((F_DepthsOfWorlds aF0 aF1).2) = ((F_s_DepthsOfWorlds aF0 aF1).2))))]) ⟨rfl, rfl, rfl, rfl, rfl, rfl, rfl, trivial⟩; clear hE158
     refine p_tn ?_
     have hE160 := hE159.sub (L' := [(1, .pointer (some ⟨b2, 0, none⟩)), (4, .slice b58 (((F_s_DepthsOfWorlds aF0 aF1).1).length) c59), (5, .int .i64 ((F_s_DepthsOfWorlds aF0 aF1).2)), (6, .pointer (some ⟨b83, 0, none⟩)), (7, .slice b104 (((F_DepthsOfWorlds aF0 aF1).1).length) c105), (8, .int .i64 ((F_DepthsOfWorlds aF0 aF1).2)), (40, .bool (!decide (((F_DepthsOfWorlds aF0 aF1).2) = ((F_s_DepthsOfWorlds aF0 aF1).2))))]) ⟨rfl, rfl, rfl, rfl, rfl, rfl, rfl, trivial⟩
     have hS161 := (St.pick (Γ' := [.own 2 1 b104 (((F_DepthsOfWorlds aF0 aF1).1).length) c105 ((F_DepthsOfWorlds aF0 aF1).1), .own 2 1 b80 ((aF1).length) c81 aF1, .blk b83 #[.int .i64 aF0, .slice b80 ((aF1).length) c81] 30, .own 2 1 b58 (((F_s_DepthsOfWorlds aF0 aF1).1).length) c59 ((F_s_DepthsOfWorlds aF0 aF1).1), .own 2 1 b49 ((aF1).length) c50 aF1, .rd 1 aF1A aF1.length aF1C aF1, .blk b2 #[.int .i64 aF0, .slice aF1A aF1.length aF1C] 24]) hS127 [0, 2, 1, 3, 4, 6, 5] (by decide) rfl)
     exact ⟨(by rw [hb133]; exact hE160), hS161⟩
   ·
    rintro a162 w163 ⟨hE164, hS165⟩; clear hE118 hS102
    refine c_cond hE164 rfl (fun ht167 => ?_) (fun ht167 => ?_)
    ·
     have hE168 := hE164; rw [ht167] at hE168; clear hE164
     refine c_seq ?_
     refine c_reg ?_
     refine q_step (v := .bool false) hE168 (y_assign rfl) rfl rfl rfl ?_; intro a169 hE170; clear hE168
     refine c_nil ?_
     have hE171 := hE170.sub (L' := [(2, .bool false)]) ⟨rfl, trivial⟩; clear hE170
     refine p_tn ?_
     refine wp_ret ?_
     refine p_tr ?_
     have hF : F_l_FnExactDepthsOfWorlds aF0 aF1 = false := by unfold F_l_FnExactDepthsOfWorlds; rw [ht167, ht32]; first | done | rfl
     refine c_ret1 hE171 rfl rfl ?_
     exact ⟨(by rw [hF]; first | done | (dsimp only; done) | rfl), hS165.ext⟩
    ·
     obtain ⟨ht172, ht173⟩ := bor_f ht167
     have ht174 := bn_f ht172
     have hp175 := of_decide_eq_true ht174
     have ht176 := bn_f ht173
     have hp177 := of_decide_eq_true ht176
     have hE178 := hE164; rw [ht167] at hE178; clear hE164
     refine wp_skip ?_
     refine p_tn ?_
     refine c_seq ?_
     refine c_seq ?_
     refine d_start (fun w w' => (fun w' => w'.heap[b83]? = some (.cells #[.int .i64 aF0, .slice b80 ((aF1).length) c81] 30 (0, 0)) ∧ w'.heap[b2]? = some (.cells #[.int .i64 aF0, .slice aF1A aF1.length aF1C] 24 (0, 0)) ∧ True) w → (fun w' => w'.heap[b83]? = some (.cells #[.int .i64 aF0, .slice b80 ((aF1).length) c81] 30 (0, 0)) ∧ w'.heap[b2]? = some (.cells #[.int .i64 aF0, .slice aF1A aF1.length aF1C] 24 (0, 0)) ∧ True) w') [0, 1] 5 (by kernel_rfl) rfl ?_
     intro w179 he180; have hS181 := St.go hS165 he180; clear hS165
     refine d_take (fun _ h => h) (fun _ _ h k => h k) (v := .agg #[.int .i64 aF0, .slice b80 ((aF1).length) c81]) 0 rfl hE178 (S := fun w' => w'.heap[b83]? = some (.cells #[.int .i64 aF0, .slice b80 ((aF1).length) c81] 30 (0, 0)) ∧ w'.heap[b2]? = some (.cells #[.int .i64 aF0, .slice aF1A aF1.length aF1C] 24 (0, 0)) ∧ True) ⟨(St.row (i := 2) hS181 rfl _ (Ext.refl _)), (St.row (i := 6) hS181 rfl _ (Ext.refl _)), trivial⟩ (y_loadS Try.underlying30 rfl (by kernel_rfl) rfl (fun _ h => h.1)) rfl rfl (by kernel_rfl) (by kernel_rfl) (by kernel_rfl) (by kernel_rfl) rfl rfl (fun _ _ _ h => h) ?_; intro a182 hE183; clear hE178
     refine d_take (fun _ h => h) (fun _ _ h k => h k) (v := .agg #[.int .i64 aF0, .slice aF1A aF1.length aF1C]) 1 rfl hE183 (S := fun w' => w'.heap[b83]? = some (.cells #[.int .i64 aF0, .slice b80 ((aF1).length) c81] 30 (0, 0)) ∧ w'.heap[b2]? = some (.cells #[.int .i64 aF0, .slice aF1A aF1.length aF1C] 24 (0, 0)) ∧ True) ⟨(St.row (i := 2) hS181 rfl _ (Ext.refl _)), (St.row (i := 6) hS181 rfl _ (Ext.refl _)), trivial⟩ (y_loadS Try.underlying24 rfl (by kernel_rfl) rfl (fun _ h => h.2.1)) rfl rfl (by kernel_rfl) (by kernel_rfl) (by kernel_rfl) (by kernel_rfl) rfl rfl (fun _ _ _ h => h) ?_; intro a184 hE185; clear hE183
     refine d_only 2 (by kernel_rfl) rfl hE185 rfl (l_call (f := 30) (argv := [.agg #[.int .i64 aF0, .slice aF1A aF1.length aF1C]]) hE185 (fun _ => cf_l_toFrame _ _) rfl rfl (d_l_toFrame aF0 aF1A aF1.length aF1C aF1 w179 (St.rdR (i := 5) hS181 rfl) (by first | omega | (simp only [marked_len]; omega) | (simp only [marked_len] at *; omega))) ?_)
     rintro _ w187 ⟨b192, c193, rfl, ho194, he191⟩ a188 hE189; clear hE185
     have hS190 := St.own hS181 he191 ho194; clear hS181
     refine ⟨fun _ _ => ⟨(St.row (i := 3) hS190 rfl _ (Ext.refl _)), (St.row (i := 7) hS190 rfl _ (Ext.refl _)), trivial⟩, ?_⟩
     refine d_only 3 (by kernel_rfl) rfl hE189 rfl (l_call (f := 32) (argv := [.agg #[.int .i64 aF0, .slice b80 ((aF1).length) c81], .agg #[.int .i64 aF0, .slice b192 ((aF1).length) c193]]) hE189 (fun _ => cf_l_eqFrame _ _) rfl rfl (d_l_eqFrame aF0 b80 ((aF1).length) c81 aF1 aF0 b192 ((aF1).length) c193 aF1 w187 (St.rdO (i := 2) hS190 rfl) (St.rdO (i := 0) hS190 rfl)) ?_)
     rintro _ w196 ⟨rfl, he200⟩ a197 hE198; clear hE189
     have hS199 := St.go hS190 he200; clear hS190
     refine ⟨fun h => Bool.noConfusion (h.symm.trans (show exm _ _ _ = true by kernel_rfl)), ?_⟩
     refine d_pure (fun _ h => h) (v := .bool (!(decide ((aF0, aF1) = (aF0, aF1))))) 4 rfl hE198 (y_not rfl) rfl (by kernel_rfl) (by kernel_rfl) (by kernel_rfl) rfl rfl (fun _ _ _ h => h) ?_; intro a201 hE202; clear hE198
     refine d_done (by kernel_rfl) ?_
     have hE203 := hE202.sub (L' := [(1, .pointer (some ⟨b2, 0, none⟩)), (4, .slice b58 (((F_s_DepthsOfWorlds aF0 aF1).1).length) c59), (5, .int .i64 ((F_s_DepthsOfWorlds aF0 aF1).2)), (6, .pointer (some ⟨b83, 0, none⟩)), (7, .slice b104 (((F_DepthsOfWorlds aF0 aF1).1).length) c105), (8, .int .i64 ((F_DepthsOfWorlds aF0 aF1).2)), (45, .bool (!(decide ((aF0, aF1) = (aF0, aF1)))))]) ⟨rfl, rfl, rfl, rfl, rfl, rfl, rfl, trivial⟩; clear hE202
     refine p_tn ?_
     refine c_cond hE203 rfl (fun ht204 => ?_) (fun ht204 => ?_)
     ·
      have ht205 := bn_t ht204
      have hp206 := of_decide_eq_false ht205
      have hE207 := hE203; rw [ht204] at hE207; clear hE203
      refine c_seq ?_
      refine c_reg ?_
      refine q_step (v := .bool false) hE207 (y_assign rfl) rfl rfl rfl ?_; intro a208 hE209; clear hE207
      refine c_nil ?_
      have hE210 := hE209.sub (L' := [(2, .bool false)]) ⟨rfl, trivial⟩; clear hE209
      refine p_tn ?_
      refine wp_ret ?_
      refine p_tr ?_
      have hF : F_l_FnExactDepthsOfWorlds aF0 aF1 = false := by unfold F_l_FnExactDepthsOfWorlds; rw [ht204, ht167, ht32]; first | done | rfl
      refine c_ret1 hE210 rfl rfl ?_
      exact ⟨(by rw [hF]; first | done | (dsimp only; done) | rfl), hS199.ext⟩
     ·
      have ht211 := bn_f ht204
      have hp212 := of_decide_eq_true ht211
      have hE213 := hE203; rw [ht204] at hE213; clear hE203
      refine wp_skip ?_
      refine p_tn ?_
      refine c_seq ?_
      refine c_reg ?_
      refine q_step (v := .int .i64 1) hE213 (y_assign rfl) rfl rfl rfl ?_; intro a214 hE215; clear hE213
      refine c_nil ?_
      have hE216 := hE215.sub (L' := [(1, .pointer (some ⟨b2, 0, none⟩)), (4, .slice b58 (((F_s_DepthsOfWorlds aF0 aF1).1).length) c59), (5, .int .i64 ((F_s_DepthsOfWorlds aF0 aF1).2)), (6, .pointer (some ⟨b83, 0, none⟩)), (7, .slice b104 (((F_DepthsOfWorlds aF0 aF1).1).length) c105), (8, .int .i64 ((F_DepthsOfWorlds aF0 aF1).2)), (9, .int .i64 1)]) ⟨rfl, rfl, rfl, rfl, rfl, rfl, rfl, trivial⟩; clear hE215
      refine p_tn ?_
      refine c_seq ?_
      refine c_reg ?_
      refine q_step (v := .agg #[.int .i64 aF0, .slice b80 ((aF1).length) c81]) hE216 (y_loadS Try.underlying30 rfl (by kernel_rfl) rfl (St.row (i := 3) hS199 rfl)) rfl rfl rfl ?_; intro a217 hE218; clear hE216
      refine q_step (v := .int .i64 1) hE218 (y_move rfl) rfl rfl rfl ?_; intro a219 hE220; clear hE218
      have hS227 := (St.pick (Γ' := [.own 2 1 b80 ((aF1).length) c81 aF1, .own 2 1 b192 ((aF1).length) c193 aF1, .own 2 1 b104 (((F_DepthsOfWorlds aF0 aF1).1).length) c105 ((F_DepthsOfWorlds aF0 aF1).1), .blk b83 #[.int .i64 aF0, .slice b80 ((aF1).length) c81] 30, .own 2 1 b58 (((F_s_DepthsOfWorlds aF0 aF1).1).length) c59 ((F_s_DepthsOfWorlds aF0 aF1).1), .own 2 1 b49 ((aF1).length) c50 aF1, .rd 1 aF1A aF1.length aF1C aF1, .blk b2 #[.int .i64 aF0, .slice aF1A aF1.length aF1C] 24]) hS199 [2, 0, 1, 3, 4, 5, 6, 7] (by decide) rfl); clear hS199
      refine l_step hE220 rfl (l_call (f := 33) (argv := [.agg #[.int .i64 aF0, .slice b80 ((aF1).length) c81], .int .i64 1]) hE220 (fun _ => cf_l_markFrame _ _) rfl rfl (d_l_markFrame aF0 b80 ((aF1).length) c81 aF1 1 w196 w [.own 2 1 b192 ((aF1).length) c193 aF1, .own 2 1 b104 (((F_DepthsOfWorlds aF0 aF1).1).length) c105 ((F_DepthsOfWorlds aF0 aF1).1), .blk b83 #[.int .i64 aF0, .slice b80 ((aF1).length) c81] 30, .own 2 1 b58 (((F_s_DepthsOfWorlds aF0 aF1).1).length) c59 ((F_s_DepthsOfWorlds aF0 aF1).1), .own 2 1 b49 ((aF1).length) c50 aF1, .rd 1 aF1A aF1.length aF1C aF1, .blk b2 #[.int .i64 aF0, .slice aF1A aF1.length aF1C] 24] hS227 (by first | omega | (simp only [marked_len]; omega) | (simp only [marked_len] at *; omega)) (by first | omega | (simp only [marked_len]; omega) | (simp only [marked_len] at *; omega)) (by first | omega | (simp only [marked_len]; omega) | (simp only [marked_len] at *; omega))) ?_)
      rintro _ w222 ⟨rfl, hS225⟩ a223 hE224; clear hE220 hS227
      refine q_step (v := .int .i64 (1 + (aF1.length : Int))) hE224 (y_assign rfl) rfl rfl rfl ?_; intro a228 hE229; clear hE224
      refine c_nil ?_
      have hE230 := hE229.sub (L' := [(1, .pointer (some ⟨b2, 0, none⟩)), (4, .slice b58 (((F_s_DepthsOfWorlds aF0 aF1).1).length) c59), (5, .int .i64 ((F_s_DepthsOfWorlds aF0 aF1).2)), (7, .slice b104 (((F_DepthsOfWorlds aF0 aF1).1).length) c105), (8, .int .i64 ((F_DepthsOfWorlds aF0 aF1).2)), (9, .int .i64 (1 + (aF1.length : Int)))]) ⟨rfl, rfl, rfl, rfl, rfl, rfl, trivial⟩; clear hE229
      refine p_tn ?_
      refine c_seq ?_
      refine c_cut (fun a' w' => E a' 96 [(1, .pointer (some ⟨b2, 0, none⟩)), (4, .slice b58 (((F_s_DepthsOfWorlds aF0 aF1).1).length) c59), (5, .int .i64 ((F_s_DepthsOfWorlds aF0 aF1).2)), (7, .slice b104 (((F_DepthsOfWorlds aF0 aF1).1).length) c105), (61, .bool ((decide ((1 + (aF1.length : Int)) < 0)) || ((!(decide (((F_DepthsOfWorlds aF0 aF1).1) = ((F_s_DepthsOfWorlds aF0 aF1).1)))) || (!decide (((F_DepthsOfWorlds aF0 aF1).2) = ((F_s_DepthsOfWorlds aF0 aF1).2))))))] ∧ St w w' [.own 2 1 b80 ((aF1).length) c81 (marked aF1.length 1), .own 2 1 b192 ((aF1).length) c193 aF1, .own 2 1 b104 (((F_DepthsOfWorlds aF0 aF1).1).length) c105 ((F_DepthsOfWorlds aF0 aF1).1), .blk b83 #[.int .i64 aF0, .slice b80 ((aF1).length) c81] 30, .own 2 1 b58 (((F_s_DepthsOfWorlds aF0 aF1).1).length) c59 ((F_s_DepthsOfWorlds aF0 aF1).1), .own 2 1 b49 ((aF1).length) c50 aF1, .rd 1 aF1A aF1.length aF1C aF1, .blk b2 #[.int .i64 aF0, .slice aF1A aF1.length aF1C] 24]) ?_ ?_
      ·
       refine c_reg ?_
       refine q_step (v := .int .i64 (1 + (aF1.length : Int))) hE230 (y_move rfl) rfl rfl rfl ?_; intro a231 hE232; clear hE230
       refine q_step (v := .bool (decide ((1 + (aF1.length : Int)) < 0))) hE232 (y_lss rfl rfl) rfl rfl rfl ?_; intro a233 hE234; clear hE232
       refine q_step (v := .bool (decide ((1 + (aF1.length : Int)) < 0))) hE234 (y_move rfl) rfl rfl rfl ?_; intro a235 hE236; clear hE234
       rcases Bool.eq_false_or_eq_true (decide ((1 + (aF1.length : Int)) < 0)) with hb237 | hb237
       ·
        have hE238 := hE236; (try rw [hb237] at hE238); clear hE236
        have hp239 := of_decide_eq_true hb237
        refine q_skip hE238 rfl rfl rfl ?_; intro a240 hE241; clear hE238
        refine q_skip hE241 rfl rfl rfl ?_; intro a242 hE243; clear hE241
        refine q_skip hE243 rfl rfl rfl ?_; intro a244 hE245; clear hE243
        refine q_skip hE245 rfl rfl rfl ?_; intro a246 hE247; clear hE245
        refine q_step (v := .bool true) hE247 (y_pick (b := true) rfl rfl) rfl rfl rfl ?_; intro a248 hE249; clear hE247
        refine q_step (v := .bool true) hE249 (y_move rfl) rfl rfl rfl ?_; intro a250 hE251; clear hE249
        refine q_skip hE251 rfl rfl rfl ?_; intro a252 hE253; clear hE251
        refine q_skip hE253 rfl rfl rfl ?_; intro a254 hE255; clear hE253
        refine q_skip hE255 rfl rfl rfl ?_; intro a256 hE257; clear hE255
        refine q_step (v := .bool true) hE257 (y_pick (b := true) rfl rfl) rfl rfl rfl ?_; intro a258 hE259; clear hE257
        refine c_nil ?_
        have hE260 := hE259.sub (L' := [(1, .pointer (some ⟨b2, 0, none⟩)), (4, .slice b58 (((F_s_DepthsOfWorlds aF0 aF1).1).length) c59), (5, .int .i64 ((F_s_DepthsOfWorlds aF0 aF1).2)), (7, .slice b104 (((F_DepthsOfWorlds aF0 aF1).1).length) c105), (61, .bool true)]) ⟨rfl, rfl, rfl, rfl, rfl, trivial⟩; clear hE259
        refine p_tn ?_
        have hE261 := hE260.sub (L' := [(1, .pointer (some ⟨b2, 0, none⟩)), (4, .slice b58 (((F_s_DepthsOfWorlds aF0 aF1).1).length) c59), (5, .int .i64 ((F_s_DepthsOfWorlds aF0 aF1).2)), (7, .slice b104 (((F_DepthsOfWorlds aF0 aF1).1).length) c105), (61, .bool true)]) ⟨rfl, rfl, rfl, rfl, rfl, trivial⟩
        have hS262 := (St.pick (Γ' := [.own 2 1 b80 ((aF1).length) c81 (marked aF1.length 1), .own 2 1 b192 ((aF1).length) c193 aF1, .own 2 1 b104 (((F_DepthsOfWorlds aF0 aF1).1).length) c105 ((F_DepthsOfWorlds aF0 aF1).1), .blk b83 #[.int .i64 aF0, .slice b80 ((aF1).length) c81] 30, .own 2 1 b58 (((F_s_DepthsOfWorlds aF0 aF1).1).length) c59 ((F_s_DepthsOfWorlds aF0 aF1).1), .own 2 1 b49 ((aF1).length) c50 aF1, .rd 1 aF1A aF1.length aF1C aF1, .blk b2 #[.int .i64 aF0, .slice aF1A aF1.length aF1C] 24]) hS225 [0, 1, 2, 3, 4, 5, 6, 7] (by decide) rfl)
        exact ⟨(by rw [hb237]; exact hE261), hS262⟩
       ·
        have hE263 := hE236; (try rw [hb237] at hE263); clear hE236
        have hp264 := of_decide_eq_false hb237
        refine q_step (v := .slice b104 (((F_DepthsOfWorlds aF0 aF1).1).length) c105) hE263 (y_move rfl) rfl rfl rfl ?_; intro a265 hE266; clear hE263
        refine q_step (v := .slice b58 (((F_s_DepthsOfWorlds aF0 aF1).1).length) c59) hE266 (y_move rfl) rfl rfl rfl ?_; intro a267 hE268; clear hE266
        refine l_step hE268 rfl (l_call (f := 19) (argv := [.slice b104 (((F_DepthsOfWorlds aF0 aF1).1).length) c105, .slice b58 (((F_s_DepthsOfWorlds aF0 aF1).1).length) c59]) hE268 (fun _ => cf_l_eqInt64S _ _) rfl rfl (d_l_eqInt64S b104 (((F_DepthsOfWorlds aF0 aF1).1).length) c105 ((F_DepthsOfWorlds aF0 aF1).1) b58 (((F_s_DepthsOfWorlds aF0 aF1).1).length) c59 ((F_s_DepthsOfWorlds aF0 aF1).1) w222 (St.rdO (i := 2) hS225 rfl) (St.rdO (i := 4) hS225 rfl)) ?_)
        rintro _ w270 ⟨rfl, he274⟩ a271 hE272; clear hE268
        have hS273 := St.go hS225 he274; clear hS225
        refine q_step (v := .bool (!(decide (((F_DepthsOfWorlds aF0 aF1).1) = ((F_s_DepthsOfWorlds aF0 aF1).1))))) hE272 (y_not rfl) rfl rfl rfl ?_; intro a275 hE276; clear hE272
        refine q_step (v := .bool (!(decide (((F_DepthsOfWorlds aF0 aF1).1) = ((F_s_DepthsOfWorlds aF0 aF1).1))))) hE276 (y_pick (b := false) rfl rfl) rfl rfl rfl ?_; intro a277 hE278; clear hE276
        refine q_step (v := .bool (!(decide (((F_DepthsOfWorlds aF0 aF1).1) = ((F_s_DepthsOfWorlds aF0 aF1).1))))) hE278 (y_move rfl) rfl rfl rfl ?_; intro a279 hE280; clear hE278
        rcases Bool.eq_false_or_eq_true (!(decide (((F_DepthsOfWorlds aF0 aF1).1) = ((F_s_DepthsOfWorlds aF0 aF1).1)))) with hb281 | hb281
        ·
         have hE282 := hE280; (try rw [hb281] at hE282); clear hE280
         have ht283 := bn_t hb281
         have hp284 := of_decide_eq_false ht283
         refine q_skip hE282 rfl rfl rfl ?_; intro a285 hE286; clear hE282
         refine q_skip hE286 rfl rfl rfl ?_; intro a287 hE288; clear hE286
         refine q_skip hE288 rfl rfl rfl ?_; intro a289 hE290; clear hE288
         refine q_step (v := .bool true) hE290 (y_pick (b := true) rfl rfl) rfl rfl rfl ?_; intro a291 hE292; clear hE290
         refine c_nil ?_
         have hE293 := hE292.sub (L' := [(1, .pointer (some ⟨b2, 0, none⟩)), (4, .slice b58 (((F_s_DepthsOfWorlds aF0 aF1).1).length) c59), (5, .int .i64 ((F_s_DepthsOfWorlds aF0 aF1).2)), (7, .slice b104 (((F_DepthsOfWorlds aF0 aF1).1).length) c105), (61, .bool true)]) ⟨rfl, rfl, rfl, rfl, rfl, trivial⟩; clear hE292
         refine p_tn ?_
         have hE294 := hE293.sub (L' := [(1, .pointer (some ⟨b2, 0, none⟩)), (4, .slice b58 (((F_s_DepthsOfWorlds aF0 aF1).1).length) c59), (5, .int .i64 ((F_s_DepthsOfWorlds aF0 aF1).2)), (7, .slice b104 (((F_DepthsOfWorlds aF0 aF1).1).length) c105), (61, .bool true)]) ⟨rfl, rfl, rfl, rfl, rfl, trivial⟩
         have hS295 := (St.pick (Γ' := [.own 2 1 b80 ((aF1).length) c81 (marked aF1.length 1), .own 2 1 b192 ((aF1).length) c193 aF1, .own 2 1 b104 (((F_DepthsOfWorlds aF0 aF1).1).length) c105 ((F_DepthsOfWorlds aF0 aF1).1), .blk b83 #[.int .i64 aF0, .slice b80 ((aF1).length) c81] 30, .own 2 1 b58 (((F_s_DepthsOfWorlds aF0 aF1).1).length) c59 ((F_s_DepthsOfWorlds aF0 aF1).1), .own 2 1 b49 ((aF1).length) c50 aF1, .rd 1 aF1A aF1.length aF1C aF1, .blk b2 #[.int .i64 aF0, .slice aF1A aF1.length aF1C] 24]) hS273 [0, 1, 2, 3, 4, 5, 6, 7] (by decide) rfl)
         exact ⟨(by rw [hb281, hb237]; exact hE294), hS295⟩
        ·
         have hE296 := hE280; (try rw [hb281] at hE296); clear hE280
         have ht297 := bn_f hb281
         have hp298 := of_decide_eq_true ht297
         refine q_step (v := .int .i64 ((F_DepthsOfWorlds aF0 aF1).2)) hE296 (y_move rfl) rfl rfl rfl ?_; intro a299 hE300; clear hE296
         refine q_step (v := .int .i64 ((F_s_DepthsOfWorlds aF0 aF1).2)) hE300 (y_move rfl) rfl rfl rfl ?_; intro a301 hE302; clear hE300
         refine q_step (v := .bool (!decide (((F_DepthsOfWorlds aF0 aF1).2) = ((F_s_DepthsOfWorlds aF0 aF1).2)))) hE302 (y_neq rfl rfl) rfl rfl rfl ?_; intro a303 hE304; clear hE302
         refine q_step (v := .bool (!decide (((F_DepthsOfWorlds aF0 aF1).2) = ((F_s_DepthsOfWorlds aF0 aF1).2)))) hE304 (y_pick (b := false) rfl rfl) rfl rfl rfl ?_; intro a305 hE306; clear hE304
         refine c_nil ?_
         have hE307 := hE306.sub (L' := [(1, .pointer (some ⟨b2, 0, none⟩)), (4, .slice b58 (((F_s_DepthsOfWorlds aF0 aF1).1).length) c59), (5, .int .i64 ((F_s_DepthsOfWorlds aF0 aF1).2)), (7, .slice b104 (((F_DepthsOfWorlds aF0 aF1).1).length) c105), (61, .bool (!decide (((F_DepthsOfWorlds aF0 aF1).2) = ((F_s_DepthsOfWorlds aF0 aF1).2))))]) ⟨rfl, rfl, rfl, rfl, rfl, trivial⟩; clear hE306
         refine p_tn ?_
         have hE308 := hE307.sub (L' := [(1, .pointer (some ⟨b2, 0, none⟩)), (4, .slice b58 (((F_s_DepthsOfWorlds aF0 aF1).1).length) c59), (5, .int .i64 ((F_s_DepthsOfWorlds aF0 aF1).2)), (7, .slice b104 (((F_DepthsOfWorlds aF0 aF1).1).length) c105), (61, .bool (!decide (((F_DepthsOfWorlds aF0 aF1).2) = ((F_s_DepthsOfWorlds aF0 aF1).2))))]) ⟨rfl, rfl, rfl, rfl, rfl, trivial⟩
         have hS309 := (St.pick (Γ' := [.own 2 1 b80 ((aF1).length) c81 (marked aF1.length 1), .own 2 1 b192 ((aF1).length) c193 aF1, .own 2 1 b104 (((F_DepthsOfWorlds aF0 aF1).1).length) c105 ((F_DepthsOfWorlds aF0 aF1).1), .blk b83 #[.int .i64 aF0, .slice b80 ((aF1).length) c81] 30, .own 2 1 b58 (((F_s_DepthsOfWorlds aF0 aF1).1).length) c59 ((F_s_DepthsOfWorlds aF0 aF1).1), .own 2 1 b49 ((aF1).length) c50 aF1, .rd 1 aF1A aF1.length aF1C aF1, .blk b2 #[.int .i64 aF0, .slice aF1A aF1.length aF1C] 24]) hS273 [0, 1, 2, 3, 4, 5, 6, 7] (by decide) rfl)
         exact ⟨(by rw [hb281, hb237]; exact hE308), hS309⟩
      ·
       rintro a310 w311 ⟨hE312, hS313⟩; clear hE230 hS225
       refine c_cond hE312 rfl (fun ht315 => ?_) (fun ht315 => ?_)
       ·
        have hE316 := hE312; rw [ht315] at hE316; clear hE312
        refine c_seq ?_
        refine c_reg ?_
        refine q_step (v := .bool false) hE316 (y_assign rfl) rfl rfl rfl ?_; intro a317 hE318; clear hE316
        refine c_nil ?_
        have hE319 := hE318.sub (L' := [(2, .bool false)]) ⟨rfl, trivial⟩; clear hE318
        refine p_tn ?_
        refine wp_ret ?_
        refine p_tr ?_
        have hF : F_l_FnExactDepthsOfWorlds aF0 aF1 = false := by unfold F_l_FnExactDepthsOfWorlds; rw [ht315, ht204, ht167, ht32]; first | done | rfl
        refine c_ret1 hE319 rfl rfl ?_
        exact ⟨(by rw [hF]; first | done | (dsimp only; done) | rfl), hS313.ext⟩
       ·
        obtain ⟨ht320, ht321⟩ := bor_f ht315
        have hp322 := of_decide_eq_false ht320
        obtain ⟨ht323, ht324⟩ := bor_f ht321
        have ht325 := bn_f ht323
        have hp326 := of_decide_eq_true ht325
        have ht327 := bn_f ht324
        have hp328 := of_decide_eq_true ht327
        have hE329 := hE312; rw [ht315] at hE329; clear hE312
        refine wp_skip ?_
        refine p_tn ?_
        refine c_seq ?_
        refine c_reg ?_
        refine q_step (v := .int .i64 1) hE329 (y_assign rfl) rfl rfl rfl ?_; intro a330 hE331; clear hE329
        refine c_nil ?_
        have hE332 := hE331.sub (L' := [(1, .pointer (some ⟨b2, 0, none⟩)), (4, .slice b58 (((F_s_DepthsOfWorlds aF0 aF1).1).length) c59), (5, .int .i64 ((F_s_DepthsOfWorlds aF0 aF1).2)), (7, .slice b104 (((F_DepthsOfWorlds aF0 aF1).1).length) c105), (10, .int .i64 1)]) ⟨rfl, rfl, rfl, rfl, rfl, trivial⟩; clear hE331
        refine p_tn ?_
        refine c_seq ?_
        refine c_reg ?_
        refine q_step (v := .slice b104 (((F_DepthsOfWorlds aF0 aF1).1).length) c105) hE332 (y_move rfl) rfl rfl rfl ?_; intro a333 hE334; clear hE332
        refine q_step (v := .int .i64 1) hE334 (y_move rfl) rfl rfl rfl ?_; intro a335 hE336; clear hE334
        have hS343 := (St.pick (Γ' := [.own 2 1 b104 (((F_DepthsOfWorlds aF0 aF1).1).length) c105 ((F_DepthsOfWorlds aF0 aF1).1), .own 2 1 b80 ((aF1).length) c81 (marked aF1.length 1), .own 2 1 b192 ((aF1).length) c193 aF1, .blk b83 #[.int .i64 aF0, .slice b80 ((aF1).length) c81] 30, .own 2 1 b58 (((F_s_DepthsOfWorlds aF0 aF1).1).length) c59 ((F_s_DepthsOfWorlds aF0 aF1).1), .own 2 1 b49 ((aF1).length) c50 aF1, .rd 1 aF1A aF1.length aF1C aF1, .blk b2 #[.int .i64 aF0, .slice aF1A aF1.length aF1C] 24]) hS313 [2, 0, 1, 3, 4, 5, 6, 7] (by decide) rfl); clear hS313
        refine l_step hE336 rfl (l_call (f := 22) (argv := [.slice b104 (((F_DepthsOfWorlds aF0 aF1).1).length) c105, .int .i64 1]) hE336 (fun _ => cf_l_markInt64S _ _) rfl rfl (d_l_markInt64S b104 (((F_DepthsOfWorlds aF0 aF1).1).length) c105 ((F_DepthsOfWorlds aF0 aF1).1) 1 w311 w [.own 2 1 b80 ((aF1).length) c81 (marked aF1.length 1), .own 2 1 b192 ((aF1).length) c193 aF1, .blk b83 #[.int .i64 aF0, .slice b80 ((aF1).length) c81] 30, .own 2 1 b58 (((F_s_DepthsOfWorlds aF0 aF1).1).length) c59 ((F_s_DepthsOfWorlds aF0 aF1).1), .own 2 1 b49 ((aF1).length) c50 aF1, .rd 1 aF1A aF1.length aF1C aF1, .blk b2 #[.int .i64 aF0, .slice aF1A aF1.length aF1C] 24] hS343 (by first | omega | (simp only [marked_len]; omega) | (simp only [marked_len] at *; omega)) (by first | omega | (simp only [marked_len]; omega) | (simp only [marked_len] at *; omega)) (by first | omega | (simp only [marked_len]; omega) | (simp only [marked_len] at *; omega))) ?_)
        rintro _ w338 ⟨rfl, hS341⟩ a339 hE340; clear hE336 hS343
        refine q_step (v := .int .i64 (1 + (((F_DepthsOfWorlds aF0 aF1).1).length : Int))) hE340 (y_assign rfl) rfl rfl rfl ?_; intro a344 hE345; clear hE340
        refine c_nil ?_
        have hE346 := hE345.sub (L' := [(1, .pointer (some ⟨b2, 0, none⟩)), (4, .slice b58 (((F_s_DepthsOfWorlds aF0 aF1).1).length) c59), (5, .int .i64 ((F_s_DepthsOfWorlds aF0 aF1).2)), (7, .slice b104 (((F_DepthsOfWorlds aF0 aF1).1).length) c105), (10, .int .i64 (1 + (((F_DepthsOfWorlds aF0 aF1).1).length : Int)))]) ⟨rfl, rfl, rfl, rfl, rfl, trivial⟩; clear hE345
        refine p_tn ?_
        refine c_seq ?_
        refine c_reg ?_
        refine q_step (v := .int .i64 1) hE346 (y_assign rfl) rfl rfl rfl ?_; intro a347 hE348; clear hE346
        refine c_nil ?_
        have hE349 := hE348.sub (L' := [(1, .pointer (some ⟨b2, 0, none⟩)), (4, .slice b58 (((F_s_DepthsOfWorlds aF0 aF1).1).length) c59), (5, .int .i64 ((F_s_DepthsOfWorlds aF0 aF1).2)), (7, .slice b104 (((F_DepthsOfWorlds aF0 aF1).1).length) c105), (10, .int .i64 (1 + (((F_DepthsOfWorlds aF0 aF1).1).length : Int))), (11, .int .i64 1)]) ⟨rfl, rfl, rfl, rfl, rfl, rfl, trivial⟩; clear hE348
        refine p_tn ?_
        refine c_seq ?_
        refine c_reg ?_
        refine q_step (v := .slice b104 (((F_DepthsOfWorlds aF0 aF1).1).length) c105) hE349 (y_move rfl) rfl rfl rfl ?_; intro a350 hE351; clear hE349
        refine q_step (v := .int .i64 1) hE351 (y_move rfl) rfl rfl rfl ?_; intro a352 hE353; clear hE351
        refine l_step hE353 rfl (l_call (f := 23) (argv := [.slice b104 (((F_DepthsOfWorlds aF0 aF1).1).length) c105, .int .i64 1]) hE353 (fun _ => cf_l_heldInt64S _ _) rfl rfl (c_l_heldInt64S b104 (((F_DepthsOfWorlds aF0 aF1).1).length) c105 (marked ((F_DepthsOfWorlds aF0 aF1).1).length 1) 1 w338 (St.rdO (i := 0) hS341 rfl) (by first | omega | (simp only [marked_len]; omega) | (simp only [marked_len] at *; omega)) (by first | omega | (simp only [marked_len]; omega) | (simp only [marked_len] at *; omega)) (by first | omega | (simp only [marked_len]; omega) | (simp only [marked_len] at *; omega))) ?_)
        rintro _ w355 ⟨rfl, he359⟩ a356 hE357; clear hE353
        have hS358 := St.go hS341 he359; clear hS341
        refine q_step (v := .int .i64 (F_l_heldInt64S (marked ((F_DepthsOfWorlds aF0 aF1).1).length 1) 1)) hE357 (y_assign rfl) rfl rfl rfl ?_; intro a360 hE361; clear hE357
        refine c_nil ?_
        have hE362 := hE361.sub (L' := [(1, .pointer (some ⟨b2, 0, none⟩)), (4, .slice b58 (((F_s_DepthsOfWorlds aF0 aF1).1).length) c59), (5, .int .i64 ((F_s_DepthsOfWorlds aF0 aF1).2)), (7, .slice b104 (((F_DepthsOfWorlds aF0 aF1).1).length) c105), (10, .int .i64 (1 + (((F_DepthsOfWorlds aF0 aF1).1).length : Int))), (11, .int .i64 (F_l_heldInt64S (marked ((F_DepthsOfWorlds aF0 aF1).1).length 1) 1))]) ⟨rfl, rfl, rfl, rfl, rfl, rfl, trivial⟩; clear hE361
        refine p_tn ?_
        refine c_seq ?_
        refine c_seq ?_
        refine c_reg ?_
        refine q_step (v := .int .i64 (F_l_heldInt64S (marked ((F_DepthsOfWorlds aF0 aF1).1).length 1) 1)) hE362 (y_move rfl) rfl rfl rfl ?_; intro a363 hE364; clear hE362
        refine q_step (v := .bool (decide ((F_l_heldInt64S (marked ((F_DepthsOfWorlds aF0 aF1).1).length 1) 1) < 0))) hE364 (y_lss rfl rfl) rfl rfl rfl ?_; intro a365 hE366; clear hE364
        refine c_nil ?_
        have hE367 := hE366.sub (L' := [(1, .pointer (some ⟨b2, 0, none⟩)), (4, .slice b58 (((F_s_DepthsOfWorlds aF0 aF1).1).length) c59), (5, .int .i64 ((F_s_DepthsOfWorlds aF0 aF1).2)), (7, .slice b104 (((F_DepthsOfWorlds aF0 aF1).1).length) c105), (10, .int .i64 (1 + (((F_DepthsOfWorlds aF0 aF1).1).length : Int))), (11, .int .i64 (F_l_heldInt64S (marked ((F_DepthsOfWorlds aF0 aF1).1).length 1) 1)), (69, .bool (decide ((F_l_heldInt64S (marked ((F_DepthsOfWorlds aF0 aF1).1).length 1) 1) < 0)))]) ⟨rfl, rfl, rfl, rfl, rfl, rfl, rfl, trivial⟩; clear hE366
        refine p_tn ?_
        refine c_cond hE367 rfl (fun ht368 => ?_) (fun ht368 => ?_)
        ·
         have hp369 := of_decide_eq_true ht368
         have hE370 := hE367; rw [ht368] at hE370; clear hE367
         refine c_seq ?_
         refine c_reg ?_
         refine q_step (v := .bool false) hE370 (y_assign rfl) rfl rfl rfl ?_; intro a371 hE372; clear hE370
         refine c_nil ?_
         have hE373 := hE372.sub (L' := [(2, .bool false)]) ⟨rfl, trivial⟩; clear hE372
         refine p_tn ?_
         refine wp_ret ?_
         refine p_tr ?_
         have hF : F_l_FnExactDepthsOfWorlds aF0 aF1 = false := by unfold F_l_FnExactDepthsOfWorlds; rw [ht368, ht315, ht204, ht167, ht32]; first | done | rfl
         refine c_ret1 hE373 rfl rfl ?_
         exact ⟨(by rw [hF]; first | done | (dsimp only; done) | rfl), hS358.ext⟩
        ·
         have hp374 := of_decide_eq_false ht368
         have hE375 := hE367; rw [ht368] at hE375; clear hE367
         refine wp_skip ?_
         refine p_tn ?_
         refine c_seq ?_
         refine c_seq ?_
         refine c_reg ?_
         refine q_step (v := .int .i64 (F_l_heldInt64S (marked ((F_DepthsOfWorlds aF0 aF1).1).length 1) 1)) hE375 (y_move rfl) rfl rfl rfl ?_; intro a376 hE377; clear hE375
         refine q_step (v := .int .i64 (1 + (((F_DepthsOfWorlds aF0 aF1).1).length : Int))) hE377 (y_move rfl) rfl rfl rfl ?_; intro a378 hE379; clear hE377
         refine q_step (v := .bool (!decide ((F_l_heldInt64S (marked ((F_DepthsOfWorlds aF0 aF1).1).length 1) 1) = (1 + (((F_DepthsOfWorlds aF0 aF1).1).length : Int))))) hE379 (y_neq rfl rfl) rfl rfl rfl ?_; intro a380 hE381; clear hE379
         refine c_nil ?_
         have hE382 := hE381.sub (L' := [(1, .pointer (some ⟨b2, 0, none⟩)), (4, .slice b58 (((F_s_DepthsOfWorlds aF0 aF1).1).length) c59), (5, .int .i64 ((F_s_DepthsOfWorlds aF0 aF1).2)), (7, .slice b104 (((F_DepthsOfWorlds aF0 aF1).1).length) c105), (10, .int .i64 (1 + (((F_DepthsOfWorlds aF0 aF1).1).length : Int))), (72, .bool (!decide ((F_l_heldInt64S (marked ((F_DepthsOfWorlds aF0 aF1).1).length 1) 1) = (1 + (((F_DepthsOfWorlds aF0 aF1).1).length : Int)))))]) ⟨rfl, rfl, rfl, rfl, rfl, rfl, trivial⟩; clear hE381
         refine p_tn ?_
         refine c_cond hE382 rfl (fun ht383 => ?_) (fun ht383 => ?_)
         ·
          have ht384 := bn_t ht383
          have hp385 := of_decide_eq_false ht384
          have hE386 := hE382; rw [ht383] at hE386; clear hE382
          refine c_seq ?_
          refine c_reg ?_
          refine q_step (v := .bool false) hE386 (y_assign rfl) rfl rfl rfl ?_; intro a387 hE388; clear hE386
          refine c_nil ?_
          have hE389 := hE388.sub (L' := [(2, .bool false)]) ⟨rfl, trivial⟩; clear hE388
          refine p_tn ?_
          refine wp_ret ?_
          refine p_tr ?_
          have hF : F_l_FnExactDepthsOfWorlds aF0 aF1 = false := by unfold F_l_FnExactDepthsOfWorlds; rw [ht383, ht368, ht315, ht204, ht167, ht32]; first | done | rfl
          refine c_ret1 hE389 rfl rfl ?_
          exact ⟨(by rw [hF]; first | done | (dsimp only; done) | rfl), hS358.ext⟩
         ·
          have ht390 := bn_f ht383
          have hp391 := of_decide_eq_true ht390
          have hE392 := hE382; rw [ht383] at hE392; clear hE382
          refine wp_skip ?_
          refine p_tn ?_
          refine c_seq ?_
          refine c_reg ?_
          refine q_step (v := .agg #[.int .i64 aF0, .slice aF1A aF1.length aF1C]) hE392 (y_loadS Try.underlying24 rfl (by kernel_rfl) rfl (St.row (i := 7) hS358 rfl)) rfl rfl rfl ?_; intro a393 hE394; clear hE392
          refine l_step hE394 rfl (l_call (f := 30) (argv := [.agg #[.int .i64 aF0, .slice aF1A aF1.length aF1C]]) hE394 (fun _ => cf_l_toFrame _ _) rfl rfl (d_l_toFrame aF0 aF1A aF1.length aF1C aF1 w355 (St.rdR (i := 6) hS358 rfl) (by first | omega | (simp only [marked_len]; omega) | (simp only [marked_len] at *; omega))) ?_)
          rintro _ w396 ⟨b401, c402, rfl, ho403, he400⟩ a397 hE398; clear hE394
          have hS399 := St.own hS358 he400 ho403; clear hS358
          refine l_step hE398 rfl (l_call (f := 31) (argv := [.agg #[.int .i64 aF0, .slice b401 ((aF1).length) c402]]) hE398 (fun _ => cf_DepthsOfWorlds _ _) rfl rfl (c_DepthsOfWorlds aF0 b401 ((aF1).length) c402 aF1 w396 (St.rdO (i := 0) hS399 rfl)) ?_)
          rintro _ w405 ⟨b410, c411, rfl, ho412, he409⟩ a406 hE407; clear hE398
          have hf413 := DepthsOfWorlds_len aF0 aF1
          have hS408 := St.own hS399 he409 ho412; clear hS399
          refine q_step (v := .tuple #[.slice b410 (((F_DepthsOfWorlds aF0 aF1).1).length) c411, .int .i64 ((F_DepthsOfWorlds aF0 aF1).2)]) hE407 (y_move rfl) rfl rfl rfl ?_; intro a414 hE415; clear hE407
          refine q_step (v := .slice b410 (((F_DepthsOfWorlds aF0 aF1).1).length) c411) hE415 (y_extract rfl rfl) rfl rfl rfl ?_; intro a416 hE417; clear hE415
          refine q_step (v := .int .i64 ((F_DepthsOfWorlds aF0 aF1).2)) hE417 (y_extract rfl rfl) rfl rfl rfl ?_; intro a418 hE419; clear hE417
          refine q_step (v := .slice b410 (((F_DepthsOfWorlds aF0 aF1).1).length) c411) hE419 (y_assign rfl) rfl rfl rfl ?_; intro a420 hE421; clear hE419
          refine q_step (v := .int .i64 ((F_DepthsOfWorlds aF0 aF1).2)) hE421 (y_assign rfl) rfl rfl rfl ?_; intro a422 hE423; clear hE421
          refine c_nil ?_
          have hE424 := hE423.sub (L' := [(4, .slice b58 (((F_s_DepthsOfWorlds aF0 aF1).1).length) c59), (5, .int .i64 ((F_s_DepthsOfWorlds aF0 aF1).2)), (7, .slice b104 (((F_DepthsOfWorlds aF0 aF1).1).length) c105), (10, .int .i64 (1 + (((F_DepthsOfWorlds aF0 aF1).1).length : Int))), (12, .slice b410 (((F_DepthsOfWorlds aF0 aF1).1).length) c411), (13, .int .i64 ((F_DepthsOfWorlds aF0 aF1).2))]) ⟨rfl, rfl, rfl, rfl, rfl, rfl, trivial⟩; clear hE423
          refine p_tn ?_
          refine c_seq ?_
          refine c_cut (fun a' w' => E a' 96 [(7, .slice b104 (((F_DepthsOfWorlds aF0 aF1).1).length) c105), (10, .int .i64 (1 + (((F_DepthsOfWorlds aF0 aF1).1).length : Int))), (87, .bool ((!(decide (((F_DepthsOfWorlds aF0 aF1).1) = ((F_s_DepthsOfWorlds aF0 aF1).1)))) || (!decide (((F_DepthsOfWorlds aF0 aF1).2) = ((F_s_DepthsOfWorlds aF0 aF1).2)))))] ∧ St w w' [.own 2 1 b410 (((F_DepthsOfWorlds aF0 aF1).1).length) c411 ((F_DepthsOfWorlds aF0 aF1).1), .own 2 1 b401 ((aF1).length) c402 aF1, .own 2 1 b104 (((F_DepthsOfWorlds aF0 aF1).1).length) c105 (marked ((F_DepthsOfWorlds aF0 aF1).1).length 1), .own 2 1 b80 ((aF1).length) c81 (marked aF1.length 1), .own 2 1 b192 ((aF1).length) c193 aF1, .blk b83 #[.int .i64 aF0, .slice b80 ((aF1).length) c81] 30, .own 2 1 b58 (((F_s_DepthsOfWorlds aF0 aF1).1).length) c59 ((F_s_DepthsOfWorlds aF0 aF1).1), .own 2 1 b49 ((aF1).length) c50 aF1, .rd 1 aF1A aF1.length aF1C aF1, .blk b2 #[.int .i64 aF0, .slice aF1A aF1.length aF1C] 24]) ?_ ?_
          ·
           refine c_reg ?_
           refine q_step (v := .slice b410 (((F_DepthsOfWorlds aF0 aF1).1).length) c411) hE424 (y_move rfl) rfl rfl rfl ?_; intro a425 hE426; clear hE424
           refine q_step (v := .slice b58 (((F_s_DepthsOfWorlds aF0 aF1).1).length) c59) hE426 (y_move rfl) rfl rfl rfl ?_; intro a427 hE428; clear hE426
           refine l_step hE428 rfl (l_call (f := 19) (argv := [.slice b410 (((F_DepthsOfWorlds aF0 aF1).1).length) c411, .slice b58 (((F_s_DepthsOfWorlds aF0 aF1).1).length) c59]) hE428 (fun _ => cf_l_eqInt64S _ _) rfl rfl (d_l_eqInt64S b410 (((F_DepthsOfWorlds aF0 aF1).1).length) c411 ((F_DepthsOfWorlds aF0 aF1).1) b58 (((F_s_DepthsOfWorlds aF0 aF1).1).length) c59 ((F_s_DepthsOfWorlds aF0 aF1).1) w405 (St.rdO (i := 0) hS408 rfl) (St.rdO (i := 6) hS408 rfl)) ?_)
           rintro _ w430 ⟨rfl, he434⟩ a431 hE432; clear hE428
           have hS433 := St.go hS408 he434; clear hS408
           refine q_step (v := .bool (!(decide (((F_DepthsOfWorlds aF0 aF1).1) = ((F_s_DepthsOfWorlds aF0 aF1).1))))) hE432 (y_not rfl) rfl rfl rfl ?_; intro a435 hE436; clear hE432
           refine q_step (v := .bool (!(decide (((F_DepthsOfWorlds aF0 aF1).1) = ((F_s_DepthsOfWorlds aF0 aF1).1))))) hE436 (y_move rfl) rfl rfl rfl ?_; intro a437 hE438; clear hE436
           rcases Bool.eq_false_or_eq_true (!(decide (((F_DepthsOfWorlds aF0 aF1).1) = ((F_s_DepthsOfWorlds aF0 aF1).1)))) with hb439 | hb439
           ·
            have hE440 := hE438; (try rw [hb439] at hE440); clear hE438
            have ht441 := bn_t hb439
            have hp442 := of_decide_eq_false ht441
            refine q_skip hE440 rfl rfl rfl ?_; intro a443 hE444; clear hE440
            refine q_skip hE444 rfl rfl rfl ?_; intro a445 hE446; clear hE444
            refine q_skip hE446 rfl rfl rfl ?_; intro a447 hE448; clear hE446
            refine q_step (v := .bool true) hE448 (y_pick (b := true) rfl rfl) rfl rfl rfl ?_; intro a449 hE450; clear hE448
            refine c_nil ?_
            have hE451 := hE450.sub (L' := [(7, .slice b104 (((F_DepthsOfWorlds aF0 aF1).1).length) c105), (10, .int .i64 (1 + (((F_DepthsOfWorlds aF0 aF1).1).length : Int))), (87, .bool true)]) ⟨rfl, rfl, rfl, trivial⟩; clear hE450
            refine p_tn ?_
            have hE452 := hE451.sub (L' := [(7, .slice b104 (((F_DepthsOfWorlds aF0 aF1).1).length) c105), (10, .int .i64 (1 + (((F_DepthsOfWorlds aF0 aF1).1).length : Int))), (87, .bool true)]) ⟨rfl, rfl, rfl, trivial⟩
            have hS453 := (St.pick (Γ' := [.own 2 1 b410 (((F_DepthsOfWorlds aF0 aF1).1).length) c411 ((F_DepthsOfWorlds aF0 aF1).1), .own 2 1 b401 ((aF1).length) c402 aF1, .own 2 1 b104 (((F_DepthsOfWorlds aF0 aF1).1).length) c105 (marked ((F_DepthsOfWorlds aF0 aF1).1).length 1), .own 2 1 b80 ((aF1).length) c81 (marked aF1.length 1), .own 2 1 b192 ((aF1).length) c193 aF1, .blk b83 #[.int .i64 aF0, .slice b80 ((aF1).length) c81] 30, .own 2 1 b58 (((F_s_DepthsOfWorlds aF0 aF1).1).length) c59 ((F_s_DepthsOfWorlds aF0 aF1).1), .own 2 1 b49 ((aF1).length) c50 aF1, .rd 1 aF1A aF1.length aF1C aF1, .blk b2 #[.int .i64 aF0, .slice aF1A aF1.length aF1C] 24]) hS433 [0, 1, 2, 3, 4, 5, 6, 7, 8, 9] (by decide) rfl)
            exact ⟨(by rw [hb439]; exact hE452), hS453⟩
           ·
            have hE454 := hE438; (try rw [hb439] at hE454); clear hE438
            have ht455 := bn_f hb439
            have hp456 := of_decide_eq_true ht455
            refine q_step (v := .int .i64 ((F_DepthsOfWorlds aF0 aF1).2)) hE454 (y_move rfl) rfl rfl rfl ?_; intro a457 hE458; clear hE454
            refine q_step (v := .int .i64 ((F_s_DepthsOfWorlds aF0 aF1).2)) hE458 (y_move rfl) rfl rfl rfl ?_; intro a459 hE460; clear hE458
            refine q_step (v := .bool (!decide (((F_DepthsOfWorlds aF0 aF1).2) = ((F_s_DepthsOfWorlds aF0 aF1).2)))) hE460 (y_neq rfl rfl) rfl rfl rfl ?_; intro a461 hE462; clear hE460
            refine q_step (v := .bool (!decide (((F_DepthsOfWorlds aF0 aF1).2) = ((F_s_DepthsOfWorlds aF0 aF1).2)))) hE462 (y_pick (b := false) rfl rfl) rfl rfl rfl ?_; intro a463 hE464; clear hE462
            refine c_nil ?_
            have hE465 := hE464.sub (L' := [(7, .slice b104 (((F_DepthsOfWorlds aF0 aF1).1).length) c105), (10, .int .i64 (1 + (((F_DepthsOfWorlds aF0 aF1).1).length : Int))), (87, .bool (!decide (((F_DepthsOfWorlds aF0 aF1).2) = ((F_s_DepthsOfWorlds aF0 aF1).2))))]) ⟨rfl, rfl, rfl, trivial⟩; clear hE464
            refine p_tn ?_
            have hE466 := hE465.sub (L' := [(7, .slice b104 (((F_DepthsOfWorlds aF0 aF1).1).length) c105), (10, .int .i64 (1 + (((F_DepthsOfWorlds aF0 aF1).1).length : Int))), (87, .bool (!decide (((F_DepthsOfWorlds aF0 aF1).2) = ((F_s_DepthsOfWorlds aF0 aF1).2))))]) ⟨rfl, rfl, rfl, trivial⟩
            have hS467 := (St.pick (Γ' := [.own 2 1 b410 (((F_DepthsOfWorlds aF0 aF1).1).length) c411 ((F_DepthsOfWorlds aF0 aF1).1), .own 2 1 b401 ((aF1).length) c402 aF1, .own 2 1 b104 (((F_DepthsOfWorlds aF0 aF1).1).length) c105 (marked ((F_DepthsOfWorlds aF0 aF1).1).length 1), .own 2 1 b80 ((aF1).length) c81 (marked aF1.length 1), .own 2 1 b192 ((aF1).length) c193 aF1, .blk b83 #[.int .i64 aF0, .slice b80 ((aF1).length) c81] 30, .own 2 1 b58 (((F_s_DepthsOfWorlds aF0 aF1).1).length) c59 ((F_s_DepthsOfWorlds aF0 aF1).1), .own 2 1 b49 ((aF1).length) c50 aF1, .rd 1 aF1A aF1.length aF1C aF1, .blk b2 #[.int .i64 aF0, .slice aF1A aF1.length aF1C] 24]) hS433 [0, 1, 2, 3, 4, 5, 6, 7, 8, 9] (by decide) rfl)
            exact ⟨(by rw [hb439]; exact hE466), hS467⟩
          ·
           rintro a468 w469 ⟨hE470, hS471⟩; clear hE424 hS408
           have hE473 := hE470; rw [ht167] at hE473; clear hE470
           refine c_false hE473 rfl ?_
           refine wp_skip ?_
           refine p_tn ?_
           refine c_seq ?_
           refine c_reg ?_
           refine q_step (v := .int .i64 1) hE473 (y_assign rfl) rfl rfl rfl ?_; intro a474 hE475; clear hE473
           refine c_nil ?_
           have hE476 := hE475.sub (L' := [(7, .slice b104 (((F_DepthsOfWorlds aF0 aF1).1).length) c105), (10, .int .i64 (1 + (((F_DepthsOfWorlds aF0 aF1).1).length : Int))), (11, .int .i64 1)]) ⟨rfl, rfl, rfl, trivial⟩; clear hE475
           refine p_tn ?_
           refine c_seq ?_
           refine c_reg ?_
           refine q_step (v := .slice b104 (((F_DepthsOfWorlds aF0 aF1).1).length) c105) hE476 (y_move rfl) rfl rfl rfl ?_; intro a477 hE478; clear hE476
           refine q_step (v := .int .i64 1) hE478 (y_move rfl) rfl rfl rfl ?_; intro a479 hE480; clear hE478
           refine l_step hE480 rfl (l_call (f := 23) (argv := [.slice b104 (((F_DepthsOfWorlds aF0 aF1).1).length) c105, .int .i64 1]) hE480 (fun _ => cf_l_heldInt64S _ _) rfl rfl (c_l_heldInt64S b104 (((F_DepthsOfWorlds aF0 aF1).1).length) c105 (marked ((F_DepthsOfWorlds aF0 aF1).1).length 1) 1 w469 (St.rdO (i := 2) hS471 rfl) (by first | omega | (simp only [marked_len]; omega) | (simp only [marked_len] at *; omega)) (by first | omega | (simp only [marked_len]; omega) | (simp only [marked_len] at *; omega)) (by first | omega | (simp only [marked_len]; omega) | (simp only [marked_len] at *; omega))) ?_)
           rintro _ w482 ⟨rfl, he486⟩ a483 hE484; clear hE480
           have hS485 := St.go hS471 he486; clear hS471
           refine q_step (v := .int .i64 (F_l_heldInt64S (marked ((F_DepthsOfWorlds aF0 aF1).1).length 1) 1)) hE484 (y_assign rfl) rfl rfl rfl ?_; intro a487 hE488; clear hE484
           refine c_nil ?_
           have hE489 := hE488.sub (L' := [(10, .int .i64 (1 + (((F_DepthsOfWorlds aF0 aF1).1).length : Int))), (11, .int .i64 (F_l_heldInt64S (marked ((F_DepthsOfWorlds aF0 aF1).1).length 1) 1))]) ⟨rfl, rfl, trivial⟩; clear hE488
           refine p_tn ?_
           refine c_seq ?_
           refine c_seq ?_
           refine c_reg ?_
           refine q_step (v := .int .i64 (F_l_heldInt64S (marked ((F_DepthsOfWorlds aF0 aF1).1).length 1) 1)) hE489 (y_move rfl) rfl rfl rfl ?_; intro a490 hE491; clear hE489
           refine q_step (v := .bool (decide ((F_l_heldInt64S (marked ((F_DepthsOfWorlds aF0 aF1).1).length 1) 1) < 0))) hE491 (y_lss rfl rfl) rfl rfl rfl ?_; intro a492 hE493; clear hE491
           refine c_nil ?_
           have hE494 := hE493.sub (L' := [(10, .int .i64 (1 + (((F_DepthsOfWorlds aF0 aF1).1).length : Int))), (11, .int .i64 (F_l_heldInt64S (marked ((F_DepthsOfWorlds aF0 aF1).1).length 1) 1)), (92, .bool (decide ((F_l_heldInt64S (marked ((F_DepthsOfWorlds aF0 aF1).1).length 1) 1) < 0)))]) ⟨rfl, rfl, rfl, trivial⟩; clear hE493
           refine p_tn ?_
           have hE495 := hE494; rw [ht368] at hE495; clear hE494
           refine c_false hE495 rfl ?_
           refine wp_skip ?_
           refine p_tn ?_
           refine c_seq ?_
           refine c_seq ?_
           refine c_reg ?_
           refine q_step (v := .int .i64 (F_l_heldInt64S (marked ((F_DepthsOfWorlds aF0 aF1).1).length 1) 1)) hE495 (y_move rfl) rfl rfl rfl ?_; intro a496 hE497; clear hE495
           refine q_step (v := .int .i64 (1 + (((F_DepthsOfWorlds aF0 aF1).1).length : Int))) hE497 (y_move rfl) rfl rfl rfl ?_; intro a498 hE499; clear hE497
           refine q_step (v := .bool (!decide ((F_l_heldInt64S (marked ((F_DepthsOfWorlds aF0 aF1).1).length 1) 1) = (1 + (((F_DepthsOfWorlds aF0 aF1).1).length : Int))))) hE499 (y_neq rfl rfl) rfl rfl rfl ?_; intro a500 hE501; clear hE499
           refine c_nil ?_
           have hE502 := hE501.sub (L' := [(95, .bool (!decide ((F_l_heldInt64S (marked ((F_DepthsOfWorlds aF0 aF1).1).length 1) 1) = (1 + (((F_DepthsOfWorlds aF0 aF1).1).length : Int)))))]) ⟨rfl, trivial⟩; clear hE501
           refine p_tn ?_
           have hE503 := hE502; rw [ht383] at hE503; clear hE502
           refine c_false hE503 rfl ?_
           refine wp_skip ?_
           refine p_tn ?_
           refine c_seq ?_
           refine c_reg ?_
           refine q_step (v := .bool true) hE503 (y_assign rfl) rfl rfl rfl ?_; intro a504 hE505; clear hE503
           refine c_nil ?_
           have hE506 := hE505.sub (L' := [(2, .bool true)]) ⟨rfl, trivial⟩; clear hE505
           refine p_tn ?_
           refine wp_ret ?_
           have hF : F_l_FnExactDepthsOfWorlds aF0 aF1 = true := by unfold F_l_FnExactDepthsOfWorlds; rw [ht383, ht368, ht315, ht204, ht167, ht32]; first | done | rfl
           refine c_ret1 hE506 rfl rfl ?_
           exact ⟨(by rw [hF]; first | done | (dsimp only; done) | rfl), hS485.ext⟩
theorem FnExactDepthsOfWorlds_true (f0 : Int) (f1 : List Int) : F_l_FnExactDepthsOfWorlds f0 f1 = true := by
  unfold F_l_FnExactDepthsOfWorlds
  rw [DepthsOfWorlds_eq, heldI_eq]
  have h1 : decide (1 + (f1.length : Int) < 0) = false := decide_eq_false (by omega)
  have h2 : decide ((1 : Int) + ((F_s_DepthsOfWorlds f0 f1).1.length : Int) < 0) = false := decide_eq_false (by omega)
  simp [h1, h2]
end Go.Proofs.Ytlbonhloeefnmaa
