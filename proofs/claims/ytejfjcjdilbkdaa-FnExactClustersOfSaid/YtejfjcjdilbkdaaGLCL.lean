/- GLCL: models and contracts, printed by wip/gen/gen.py -/
import Derived.Test.YtejfjcjdilbkdaaGA
import Derived.Test.YtejfjcjdilbkdaaGCL
set_option linter.unusedVariables false
set_option linter.unusedSimpArgs false
namespace Go.Proofs.Ytejfjcjdilbkdaa
open Go.RowKit

def F_l_FnExactClustersOf (fp0 : Int) (fp1 : List Int) : Bool :=
  bif (decide ((F_l_szFrame fp0 fp1 1048576) < 0)) then true else (bif ((!(decide (((F_ClustersOf fp0 fp1).1) = ((F_s_ClustersOf fp0 fp1).1)))) || (!decide (((F_ClustersOf fp0 fp1).2) = ((F_s_ClustersOf fp0 fp1).2)))) then false else (bif (!(decide ((fp0, fp1) = (fp0, fp1)))) then false else (bif ((decide ((1 + (fp1.length : Int)) < 0)) || ((!(decide (((F_ClustersOf fp0 fp1).1) = ((F_s_ClustersOf fp0 fp1).1)))) || (!decide (((F_ClustersOf fp0 fp1).2) = ((F_s_ClustersOf fp0 fp1).2))))) then false else (bif (decide ((F_l_heldInt64S (marked ((F_ClustersOf fp0 fp1).1).length 1) 1) < 0)) then false else (bif (!decide ((F_l_heldInt64S (marked ((F_ClustersOf fp0 fp1).1).length 1) 1) = (1 + (((F_ClustersOf fp0 fp1).1).length : Int)))) then false else true)))))
theorem cf_l_FnExactClustersOf (args : Array Value) (w : World) : (callFunc 8 args).run Try.prog w = .ok (.enter 8 args) w := by kernel_rfl
set_option maxRecDepth 100000 in
theorem c_l_FnExactClustersOf (fp0 : Int) (fp1A : Option Addr) (fp1N fp1C : Nat) (fp1 : List Int) (w : World) (fp1R : RdS w 1 fp1A fp1N fp1C fp1) :
    Calls Try.prog 8 #[.agg #[.int .i64 fp0, .slice fp1A fp1N fp1C]] w (Ret fun v w' => v = .bool (F_l_FnExactClustersOf fp0 fp1) ∧ Ext w w') := by
  obtain rfl : fp1N = fp1.length := fp1R.len1.symm
  have fp1Le := fp1R.le
  have hS := St.nil w
  have hS1 := St.rd0 hS rfl fp1R; clear hS
  refine enter (args := [.agg #[.int .i64 fp0, .slice fp1A fp1.length fp1C]]) Try.func8 rfl rfl ?_
  rw [Try.ntmps8]; intro a hE
  have hE := hE.sub (L' := [(0, .agg #[.int .i64 fp0, .slice fp1A fp1.length fp1C])]) ⟨rfl, trivial⟩
  refine c_seq ?_
  refine c_reg ?_
  refine l_step hE rfl (l_box (v := .agg #[.int .i64 fp0, .slice fp1A fp1.length fp1C]) (cs := #[.int .i64 fp0, .slice fp1A fp1.length fp1C]) hS1 hE rfl rfl rfl ?_)
  intro b2 w3 hS6 he7 a4 hE5; clear hS1 hE
  refine q_step (v := .bool false) hE5 (y_assign rfl) rfl rfl rfl ?_; intro a8 hE9; clear hE5
  refine c_nil ?_
  have hE10 := hE9.sub (L' := [(1, .pointer (some ⟨b2, 0, none⟩))]) ⟨rfl, trivial⟩; clear hE9
  refine p_tn ?_
  refine c_seq ?_
  refine c_reg ?_
  refine q_step (v := .int .i64 1048576) hE10 (y_assign rfl) rfl rfl rfl ?_; intro a11 hE12; clear hE10
  refine c_nil ?_
  have hE13 := hE12.sub (L' := [(1, .pointer (some ⟨b2, 0, none⟩)), (3, .int .i64 1048576)]) ⟨rfl, rfl, trivial⟩; clear hE12
  refine p_tn ?_
  refine c_seq ?_
  refine c_reg ?_
  refine q_step (v := .agg #[.int .i64 fp0, .slice fp1A fp1.length fp1C]) hE13 (y_loadS Try.underlying24 rfl (by kernel_rfl) rfl (St.row (i := 0) hS6 rfl)) rfl rfl rfl ?_; intro a14 hE15; clear hE13
  refine q_step (v := .int .i64 1048576) hE15 (y_move rfl) rfl rfl rfl ?_; intro a16 hE17; clear hE15
  refine l_step hE17 rfl (l_call (f := 15) (argv := [.agg #[.int .i64 fp0, .slice fp1A fp1.length fp1C], .int .i64 1048576]) hE17 (fun _ => cf_l_szFrame _ _) rfl rfl (c_l_szFrame fp0 fp1A fp1.length fp1C fp1 1048576 w3 (St.rdR (i := 1) hS6 rfl) (by first | omega | (simp only [marked_len]; omega)) (by first | omega | (simp only [marked_len]; omega))) ?_)
  rintro _ w19 ⟨rfl, he23⟩ a20 hE21; clear hE17
  have hS22 := St.go hS6 he23; clear hS6
  refine q_step (v := .int .i64 (F_l_szFrame fp0 fp1 1048576)) hE21 (y_assign rfl) rfl rfl rfl ?_; intro a24 hE25; clear hE21
  refine c_nil ?_
  have hE26 := hE25.sub (L' := [(1, .pointer (some ⟨b2, 0, none⟩)), (3, .int .i64 (F_l_szFrame fp0 fp1 1048576))]) ⟨rfl, rfl, trivial⟩; clear hE25
  refine p_tn ?_
  refine c_seq ?_
  refine c_seq ?_
  refine c_reg ?_
  refine q_step (v := .int .i64 (F_l_szFrame fp0 fp1 1048576)) hE26 (y_move rfl) rfl rfl rfl ?_; intro a27 hE28; clear hE26
  refine q_step (v := .bool (decide ((F_l_szFrame fp0 fp1 1048576) < 0))) hE28 (y_lss rfl rfl) rfl rfl rfl ?_; intro a29 hE30; clear hE28
  refine c_nil ?_
  have hE31 := hE30.sub (L' := [(1, .pointer (some ⟨b2, 0, none⟩)), (18, .bool (decide ((F_l_szFrame fp0 fp1 1048576) < 0)))]) ⟨rfl, rfl, trivial⟩; clear hE30
  refine p_tn ?_
  refine c_cond hE31 rfl (fun ht32 => ?_) (fun ht32 => ?_)
  ·
    have hp33 := of_decide_eq_true ht32
    have hE34 := hE31; rw [ht32] at hE34; clear hE31
    refine c_seq ?_
    refine c_reg ?_
    refine q_step (v := .bool true) hE34 (y_assign rfl) rfl rfl rfl ?_; intro a35 hE36; clear hE34
    refine c_nil ?_
    have hE37 := hE36.sub (L' := [(2, .bool true)]) ⟨rfl, trivial⟩; clear hE36
    refine p_tn ?_
    refine wp_ret ?_
    refine p_tr ?_
    have hF : F_l_FnExactClustersOf fp0 fp1 = true := by unfold F_l_FnExactClustersOf; rw [ht32]; first | done | rfl
    refine c_ret1 hE37 rfl rfl ?_
    exact ⟨(by rw [hF]; first | done | rfl), hS22.ext⟩
  ·
    have hp38 := of_decide_eq_false ht32
    have hq39 := szFrame_bound hp38
    have hE40 := hE31; rw [ht32] at hE40; clear hE31
    refine wp_skip ?_
    refine p_tn ?_
    refine c_seq ?_
    refine c_reg ?_
    refine q_step (v := .agg #[.int .i64 fp0, .slice fp1A fp1.length fp1C]) hE40 (y_loadS Try.underlying24 rfl (by kernel_rfl) rfl (St.row (i := 0) hS22 rfl)) rfl rfl rfl ?_; intro a41 hE42; clear hE40
    refine l_step hE42 rfl (l_call (f := 17) (argv := [.agg #[.int .i64 fp0, .slice fp1A fp1.length fp1C]]) hE42 (fun _ => cf_l_toFrame _ _) rfl rfl (d_l_toFrame fp0 fp1A fp1.length fp1C fp1 w19 (St.rdR (i := 1) hS22 rfl) (by first | omega | (simp only [marked_len]; omega))) ?_)
    rintro _ w44 ⟨b49, c50, rfl, ho51, he48⟩ a45 hE46; clear hE42
    have hS47 := St.own hS22 he48 ho51; clear hS22
    refine l_step hE46 rfl (l_call (f := 43) (argv := [.agg #[.int .i64 fp0, .slice b49 ((fp1).length) c50]]) hE46 (fun _ => cf_s_ClustersOf _ _) rfl rfl (c_s_ClustersOf fp0 b49 ((fp1).length) c50 fp1 w44 (St.rdO (i := 0) hS47 rfl)) ?_)
    rintro _ w53 ⟨b58, c59, rfl, ho60, he57⟩ a54 hE55; clear hE46
    have hS56 := St.own hS47 he57 ho60; clear hS47
    refine q_step (v := .tuple #[.slice b58 (((F_s_ClustersOf fp0 fp1).1).length) c59, .int .i64 ((F_s_ClustersOf fp0 fp1).2)]) hE55 (y_move rfl) rfl rfl rfl ?_; intro a61 hE62; clear hE55
    refine q_step (v := .slice b58 (((F_s_ClustersOf fp0 fp1).1).length) c59) hE62 (y_extract rfl rfl) rfl rfl rfl ?_; intro a63 hE64; clear hE62
    refine q_step (v := .int .i64 ((F_s_ClustersOf fp0 fp1).2)) hE64 (y_extract rfl rfl) rfl rfl rfl ?_; intro a65 hE66; clear hE64
    refine q_step (v := .slice b58 (((F_s_ClustersOf fp0 fp1).1).length) c59) hE66 (y_assign rfl) rfl rfl rfl ?_; intro a67 hE68; clear hE66
    refine q_step (v := .int .i64 ((F_s_ClustersOf fp0 fp1).2)) hE68 (y_assign rfl) rfl rfl rfl ?_; intro a69 hE70; clear hE68
    refine c_nil ?_
    have hE71 := hE70.sub (L' := [(1, .pointer (some ⟨b2, 0, none⟩)), (4, .slice b58 (((F_s_ClustersOf fp0 fp1).1).length) c59), (5, .int .i64 ((F_s_ClustersOf fp0 fp1).2))]) ⟨rfl, rfl, rfl, trivial⟩; clear hE70
    refine p_tn ?_
    refine c_seq ?_
    refine c_reg ?_
    refine q_step (v := .agg #[.int .i64 fp0, .slice fp1A fp1.length fp1C]) hE71 (y_loadS Try.underlying24 rfl (by kernel_rfl) rfl (St.row (i := 2) hS56 rfl)) rfl rfl rfl ?_; intro a72 hE73; clear hE71
    refine l_step hE73 rfl (l_call (f := 17) (argv := [.agg #[.int .i64 fp0, .slice fp1A fp1.length fp1C]]) hE73 (fun _ => cf_l_toFrame _ _) rfl rfl (d_l_toFrame fp0 fp1A fp1.length fp1C fp1 w53 (St.rdR (i := 3) hS56 rfl) (by first | omega | (simp only [marked_len]; omega))) ?_)
    rintro _ w75 ⟨b80, c81, rfl, ho82, he79⟩ a76 hE77; clear hE73
    have hS78 := St.own hS56 he79 ho82; clear hS56
    refine l_step hE77 rfl (l_alloc (z := .agg #[.int .i64 0, .slice none 0 0]) (cs := #[.int .i64 0, .slice none 0 0]) hS78 hE77 (fun _ => by kernel_rfl) rfl rfl ?_)
    intro b83 w84 hS87 he88 a85 hE86; clear hS78 hE77
    refine l_step hE86 rfl (l_storeS (k := 0) (cs' := #[.int .i64 fp0, .slice b80 ((fp1).length) c81]) hS87 hE86 (by kernel_rfl) rfl rfl (by kernel_rfl) rfl rfl ?_)
    intro w90 hS93 a91 hE92; clear hS87 hE86
    refine c_nil ?_
    have hE95 := hE92.sub (L' := [(1, .pointer (some ⟨b2, 0, none⟩)), (4, .slice b58 (((F_s_ClustersOf fp0 fp1).1).length) c59), (5, .int .i64 ((F_s_ClustersOf fp0 fp1).2)), (6, .pointer (some ⟨b83, 0, none⟩))]) ⟨rfl, rfl, rfl, rfl, trivial⟩; clear hE92
    refine p_tn ?_
    refine c_seq ?_
    refine c_reg ?_
    refine q_step (v := .agg #[.int .i64 fp0, .slice b80 ((fp1).length) c81]) hE95 (y_loadS Try.underlying28 rfl (by kernel_rfl) rfl (St.row (i := 0) hS93 rfl)) rfl rfl rfl ?_; intro a96 hE97; clear hE95
    refine l_step hE97 rfl (l_call (f := 44) (argv := [.agg #[.int .i64 fp0, .slice b80 ((fp1).length) c81]]) hE97 (fun _ => cf_ClustersOf _ _) rfl rfl (c_ClustersOf fp0 b80 ((fp1).length) c81 fp1 w90 (St.rdO (i := 1) hS93 rfl)) ?_)
    rintro _ w99 ⟨b104, c105, rfl, ho106, he103⟩ a100 hE101; clear hE97
    have hf107 := ClustersOf_len fp0 fp1
    have hS102 := St.own hS93 he103 ho106; clear hS93
    refine q_step (v := .tuple #[.slice b104 (((F_ClustersOf fp0 fp1).1).length) c105, .int .i64 ((F_ClustersOf fp0 fp1).2)]) hE101 (y_move rfl) rfl rfl rfl ?_; intro a108 hE109; clear hE101
    refine q_step (v := .slice b104 (((F_ClustersOf fp0 fp1).1).length) c105) hE109 (y_extract rfl rfl) rfl rfl rfl ?_; intro a110 hE111; clear hE109
    refine q_step (v := .int .i64 ((F_ClustersOf fp0 fp1).2)) hE111 (y_extract rfl rfl) rfl rfl rfl ?_; intro a112 hE113; clear hE111
    refine q_step (v := .slice b104 (((F_ClustersOf fp0 fp1).1).length) c105) hE113 (y_assign rfl) rfl rfl rfl ?_; intro a114 hE115; clear hE113
    refine q_step (v := .int .i64 ((F_ClustersOf fp0 fp1).2)) hE115 (y_assign rfl) rfl rfl rfl ?_; intro a116 hE117; clear hE115
    refine c_nil ?_
    have hE118 := hE117.sub (L' := [(1, .pointer (some ⟨b2, 0, none⟩)), (4, .slice b58 (((F_s_ClustersOf fp0 fp1).1).length) c59), (5, .int .i64 ((F_s_ClustersOf fp0 fp1).2)), (6, .pointer (some ⟨b83, 0, none⟩)), (7, .slice b104 (((F_ClustersOf fp0 fp1).1).length) c105), (8, .int .i64 ((F_ClustersOf fp0 fp1).2))]) ⟨rfl, rfl, rfl, rfl, rfl, rfl, trivial⟩; clear hE117
    refine p_tn ?_
    refine c_seq ?_
    refine c_cut (fun a' w' => E a' 96 [(1, .pointer (some ⟨b2, 0, none⟩)), (4, .slice b58 (((F_s_ClustersOf fp0 fp1).1).length) c59), (5, .int .i64 ((F_s_ClustersOf fp0 fp1).2)), (6, .pointer (some ⟨b83, 0, none⟩)), (7, .slice b104 (((F_ClustersOf fp0 fp1).1).length) c105), (8, .int .i64 ((F_ClustersOf fp0 fp1).2)), (40, .bool ((!(decide (((F_ClustersOf fp0 fp1).1) = ((F_s_ClustersOf fp0 fp1).1)))) || (!decide (((F_ClustersOf fp0 fp1).2) = ((F_s_ClustersOf fp0 fp1).2)))))] ∧ St w w' [.own 2 1 b104 (((F_ClustersOf fp0 fp1).1).length) c105 ((F_ClustersOf fp0 fp1).1), .own 2 1 b80 ((fp1).length) c81 fp1, .blk b83 #[.int .i64 fp0, .slice b80 ((fp1).length) c81] 28, .own 2 1 b58 (((F_s_ClustersOf fp0 fp1).1).length) c59 ((F_s_ClustersOf fp0 fp1).1), .own 2 1 b49 ((fp1).length) c50 fp1, .rd 1 fp1A fp1.length fp1C fp1, .blk b2 #[.int .i64 fp0, .slice fp1A fp1.length fp1C] 24]) ?_ ?_
    ·
      refine c_reg ?_
      refine q_step (v := .slice b104 (((F_ClustersOf fp0 fp1).1).length) c105) hE118 (y_move rfl) rfl rfl rfl ?_; intro a119 hE120; clear hE118
      refine q_step (v := .slice b58 (((F_s_ClustersOf fp0 fp1).1).length) c59) hE120 (y_move rfl) rfl rfl rfl ?_; intro a121 hE122; clear hE120
      refine l_step hE122 rfl (l_call (f := 21) (argv := [.slice b104 (((F_ClustersOf fp0 fp1).1).length) c105, .slice b58 (((F_s_ClustersOf fp0 fp1).1).length) c59]) hE122 (fun _ => cf_l_eqInt64S _ _) rfl rfl (d_l_eqInt64S b104 (((F_ClustersOf fp0 fp1).1).length) c105 ((F_ClustersOf fp0 fp1).1) b58 (((F_s_ClustersOf fp0 fp1).1).length) c59 ((F_s_ClustersOf fp0 fp1).1) w99 (St.rdO (i := 0) hS102 rfl) (St.rdO (i := 3) hS102 rfl)) ?_)
      rintro _ w124 ⟨rfl, he128⟩ a125 hE126; clear hE122
      have hS127 := St.go hS102 he128; clear hS102
      refine q_step (v := .bool (!(decide (((F_ClustersOf fp0 fp1).1) = ((F_s_ClustersOf fp0 fp1).1))))) hE126 (y_not rfl) rfl rfl rfl ?_; intro a129 hE130; clear hE126
      refine q_step (v := .bool (!(decide (((F_ClustersOf fp0 fp1).1) = ((F_s_ClustersOf fp0 fp1).1))))) hE130 (y_move rfl) rfl rfl rfl ?_; intro a131 hE132; clear hE130
      rcases Bool.eq_false_or_eq_true (!(decide (((F_ClustersOf fp0 fp1).1) = ((F_s_ClustersOf fp0 fp1).1)))) with hb133 | hb133
      ·
        have hE134 := hE132; rw [hb133] at hE134; clear hE132
        have ht135 := bn_t hb133
        have hp136 := of_decide_eq_false ht135
        refine q_skip hE134 rfl rfl rfl ?_; intro a137 hE138; clear hE134
        refine q_skip hE138 rfl rfl rfl ?_; intro a139 hE140; clear hE138
        refine q_skip hE140 rfl rfl rfl ?_; intro a141 hE142; clear hE140
        refine q_step (v := .bool true) hE142 (y_pick (b := true) rfl rfl) rfl rfl rfl ?_; intro a143 hE144; clear hE142
        refine c_nil ?_
        have hE145 := hE144.sub (L' := [(1, .pointer (some ⟨b2, 0, none⟩)), (4, .slice b58 (((F_s_ClustersOf fp0 fp1).1).length) c59), (5, .int .i64 ((F_s_ClustersOf fp0 fp1).2)), (6, .pointer (some ⟨b83, 0, none⟩)), (7, .slice b104 (((F_ClustersOf fp0 fp1).1).length) c105), (8, .int .i64 ((F_ClustersOf fp0 fp1).2)), (40, .bool true)]) ⟨rfl, rfl, rfl, rfl, rfl, rfl, rfl, trivial⟩; clear hE144
        refine p_tn ?_
        have hE146 := hE145.sub (L' := [(1, .pointer (some ⟨b2, 0, none⟩)), (4, .slice b58 (((F_s_ClustersOf fp0 fp1).1).length) c59), (5, .int .i64 ((F_s_ClustersOf fp0 fp1).2)), (6, .pointer (some ⟨b83, 0, none⟩)), (7, .slice b104 (((F_ClustersOf fp0 fp1).1).length) c105), (8, .int .i64 ((F_ClustersOf fp0 fp1).2)), (40, .bool true)]) ⟨rfl, rfl, rfl, rfl, rfl, rfl, rfl, trivial⟩
        have hS147 := (St.pick (Γ' := [.own 2 1 b104 (((F_ClustersOf fp0 fp1).1).length) c105 ((F_ClustersOf fp0 fp1).1), .own 2 1 b80 ((fp1).length) c81 fp1, .blk b83 #[.int .i64 fp0, .slice b80 ((fp1).length) c81] 28, .own 2 1 b58 (((F_s_ClustersOf fp0 fp1).1).length) c59 ((F_s_ClustersOf fp0 fp1).1), .own 2 1 b49 ((fp1).length) c50 fp1, .rd 1 fp1A fp1.length fp1C fp1, .blk b2 #[.int .i64 fp0, .slice fp1A fp1.length fp1C] 24]) hS127 [0, 2, 1, 3, 4, 6, 5] (by decide) rfl)
        exact ⟨(by rw [hb133]; exact hE146), hS147⟩
      ·
        have hE148 := hE132; rw [hb133] at hE148; clear hE132
        have ht149 := bn_f hb133
        have hp150 := of_decide_eq_true ht149
        refine q_step (v := .int .i64 ((F_ClustersOf fp0 fp1).2)) hE148 (y_move rfl) rfl rfl rfl ?_; intro a151 hE152; clear hE148
        refine q_step (v := .int .i64 ((F_s_ClustersOf fp0 fp1).2)) hE152 (y_move rfl) rfl rfl rfl ?_; intro a153 hE154; clear hE152
        refine q_step (v := .bool (!decide (((F_ClustersOf fp0 fp1).2) = ((F_s_ClustersOf fp0 fp1).2)))) hE154 (y_neq rfl rfl) rfl rfl rfl ?_; intro a155 hE156; clear hE154
        refine q_step (v := .bool (!decide (((F_ClustersOf fp0 fp1).2) = ((F_s_ClustersOf fp0 fp1).2)))) hE156 (y_pick (b := false) rfl rfl) rfl rfl rfl ?_; intro a157 hE158; clear hE156
        refine c_nil ?_
        have hE159 := hE158.sub (L' := [(1, .pointer (some ⟨b2, 0, none⟩)), (4, .slice b58 (((F_s_ClustersOf fp0 fp1).1).length) c59), (5, .int .i64 ((F_s_ClustersOf fp0 fp1).2)), (6, .pointer (some ⟨b83, 0, none⟩)), (7, .slice b104 (((F_ClustersOf fp0 fp1).1).length) c105), (8, .int .i64 ((F_ClustersOf fp0 fp1).2)), (40, .bool (!decide (((F_ClustersOf fp0 fp1).2) = ((F_s_ClustersOf fp0 fp1).2))))]) ⟨rfl, rfl, rfl, rfl, rfl, rfl, rfl, trivial⟩; clear hE158
        refine p_tn ?_
        have hE160 := hE159.sub (L' := [(1, .pointer (some ⟨b2, 0, none⟩)), (4, .slice b58 (((F_s_ClustersOf fp0 fp1).1).length) c59), (5, .int .i64 ((F_s_ClustersOf fp0 fp1).2)), (6, .pointer (some ⟨b83, 0, none⟩)), (7, .slice b104 (((F_ClustersOf fp0 fp1).1).length) c105), (8, .int .i64 ((F_ClustersOf fp0 fp1).2)), (40, .bool (!decide (((F_ClustersOf fp0 fp1).2) = ((F_s_ClustersOf fp0 fp1).2))))]) ⟨rfl, rfl, rfl, rfl, rfl, rfl, rfl, trivial⟩
        have hS161 := (St.pick (Γ' := [.own 2 1 b104 (((F_ClustersOf fp0 fp1).1).length) c105 ((F_ClustersOf fp0 fp1).1), .own 2 1 b80 ((fp1).length) c81 fp1, .blk b83 #[.int .i64 fp0, .slice b80 ((fp1).length) c81] 28, .own 2 1 b58 (((F_s_ClustersOf fp0 fp1).1).length) c59 ((F_s_ClustersOf fp0 fp1).1), .own 2 1 b49 ((fp1).length) c50 fp1, .rd 1 fp1A fp1.length fp1C fp1, .blk b2 #[.int .i64 fp0, .slice fp1A fp1.length fp1C] 24]) hS127 [0, 2, 1, 3, 4, 6, 5] (by decide) rfl)
        exact ⟨(by rw [hb133]; exact hE160), hS161⟩
    ·
      rintro a162 w163 ⟨hE164, hS165⟩; clear hE118 hS102
      refine c_cond hE164 rfl (fun ht166 => ?_) (fun ht166 => ?_)
      ·
        have hE167 := hE164; rw [ht166] at hE167; clear hE164
        refine c_seq ?_
        refine c_reg ?_
        refine q_step (v := .bool false) hE167 (y_assign rfl) rfl rfl rfl ?_; intro a168 hE169; clear hE167
        refine c_nil ?_
        have hE170 := hE169.sub (L' := [(2, .bool false)]) ⟨rfl, trivial⟩; clear hE169
        refine p_tn ?_
        refine wp_ret ?_
        refine p_tr ?_
        have hF : F_l_FnExactClustersOf fp0 fp1 = false := by unfold F_l_FnExactClustersOf; rw [ht166, ht32]; first | done | rfl
        refine c_ret1 hE170 rfl rfl ?_
        exact ⟨(by rw [hF]; first | done | rfl), hS165.ext⟩
      ·
        obtain ⟨ht171, ht172⟩ := bor_f ht166
        have ht173 := bn_f ht171
        have hp174 := of_decide_eq_true ht173
        have ht175 := bn_f ht172
        have hp176 := of_decide_eq_true ht175
        have hE177 := hE164; rw [ht166] at hE177; clear hE164
        refine wp_skip ?_
        refine p_tn ?_
        refine c_seq ?_
        refine c_seq ?_
        refine d_start (fun w' => w'.heap[b83]? = some (.cells #[.int .i64 fp0, .slice b80 ((fp1).length) c81] 28 (0, 0)) ∧ w'.heap[b2]? = some (.cells #[.int .i64 fp0, .slice fp1A fp1.length fp1C] 24 (0, 0)) ∧ True) [0, 1] 5 (by kernel_rfl) rfl ?_
        intro w178 he179; have hS180 := St.go hS165 he179; clear hS165
        refine d_take (v := .agg #[.int .i64 fp0, .slice b80 ((fp1).length) c81]) 0 rfl hE177 ⟨(St.row (i := 2) hS180 rfl _ (Ext.refl _)), (St.row (i := 6) hS180 rfl _ (Ext.refl _)), trivial⟩ (y_loadS Try.underlying28 rfl (by kernel_rfl) rfl (fun _ h => h.1)) rfl rfl (by kernel_rfl) (by kernel_rfl) (by kernel_rfl) rfl rfl (fun _ _ _ h => h) ?_; intro a181 hE182; clear hE177
        refine d_take (v := .agg #[.int .i64 fp0, .slice fp1A fp1.length fp1C]) 1 rfl hE182 ⟨(St.row (i := 2) hS180 rfl _ (Ext.refl _)), (St.row (i := 6) hS180 rfl _ (Ext.refl _)), trivial⟩ (y_loadS Try.underlying24 rfl (by kernel_rfl) rfl (fun _ h => h.2.1)) rfl rfl (by kernel_rfl) (by kernel_rfl) (by kernel_rfl) rfl rfl (fun _ _ _ h => h) ?_; intro a183 hE184; clear hE182
        refine d_only 2 (by kernel_rfl) rfl hE184 rfl (l_call (f := 17) (argv := [.agg #[.int .i64 fp0, .slice fp1A fp1.length fp1C]]) hE184 (fun _ => cf_l_toFrame _ _) rfl rfl (d_l_toFrame fp0 fp1A fp1.length fp1C fp1 w178 (St.rdR (i := 5) hS180 rfl) (by first | omega | (simp only [marked_len]; omega))) ?_)
        rintro _ w186 ⟨b191, c192, rfl, ho193, he190⟩ a187 hE188; clear hE184
        have hS189 := St.own hS180 he190 ho193; clear hS180
        refine ⟨fun _ _ => ⟨(St.row (i := 3) hS189 rfl _ (Ext.refl _)), (St.row (i := 7) hS189 rfl _ (Ext.refl _)), trivial⟩, ?_⟩
        refine d_only 3 (by kernel_rfl) rfl hE188 rfl (l_call (f := 20) (argv := [.agg #[.int .i64 fp0, .slice b80 ((fp1).length) c81], .agg #[.int .i64 fp0, .slice b191 ((fp1).length) c192]]) hE188 (fun _ => cf_l_eqFrame _ _) rfl rfl (d_l_eqFrame fp0 b80 ((fp1).length) c81 fp1 fp0 b191 ((fp1).length) c192 fp1 w186 (St.rdO (i := 2) hS189 rfl) (St.rdO (i := 0) hS189 rfl)) ?_)
        rintro _ w195 ⟨rfl, he199⟩ a196 hE197; clear hE188
        have hS198 := St.go hS189 he199; clear hS189
        refine ⟨fun _ _ => ⟨(St.row (i := 3) hS198 rfl _ (Ext.refl _)), (St.row (i := 7) hS198 rfl _ (Ext.refl _)), trivial⟩, ?_⟩
        refine d_pure (v := .bool (!(decide ((fp0, fp1) = (fp0, fp1))))) 4 rfl hE197 (y_not rfl) rfl (by kernel_rfl) (by kernel_rfl) (by kernel_rfl) rfl rfl (fun _ _ _ h => h) ?_; intro a200 hE201; clear hE197
        refine d_done (by kernel_rfl) ?_
        have hE202 := hE201.sub (L' := [(1, .pointer (some ⟨b2, 0, none⟩)), (4, .slice b58 (((F_s_ClustersOf fp0 fp1).1).length) c59), (5, .int .i64 ((F_s_ClustersOf fp0 fp1).2)), (6, .pointer (some ⟨b83, 0, none⟩)), (7, .slice b104 (((F_ClustersOf fp0 fp1).1).length) c105), (8, .int .i64 ((F_ClustersOf fp0 fp1).2)), (45, .bool (!(decide ((fp0, fp1) = (fp0, fp1)))))]) ⟨rfl, rfl, rfl, rfl, rfl, rfl, rfl, trivial⟩; clear hE201
        refine p_tn ?_
        refine c_cond hE202 rfl (fun ht203 => ?_) (fun ht203 => ?_)
        ·
          have ht204 := bn_t ht203
          have hp205 := of_decide_eq_false ht204
          have hE206 := hE202; rw [ht203] at hE206; clear hE202
          refine c_seq ?_
          refine c_reg ?_
          refine q_step (v := .bool false) hE206 (y_assign rfl) rfl rfl rfl ?_; intro a207 hE208; clear hE206
          refine c_nil ?_
          have hE209 := hE208.sub (L' := [(2, .bool false)]) ⟨rfl, trivial⟩; clear hE208
          refine p_tn ?_
          refine wp_ret ?_
          refine p_tr ?_
          have hF : F_l_FnExactClustersOf fp0 fp1 = false := by unfold F_l_FnExactClustersOf; rw [ht203, ht166, ht32]; first | done | rfl
          refine c_ret1 hE209 rfl rfl ?_
          exact ⟨(by rw [hF]; first | done | rfl), hS198.ext⟩
        ·
          have ht210 := bn_f ht203
          have hp211 := of_decide_eq_true ht210
          have hE212 := hE202; rw [ht203] at hE212; clear hE202
          refine wp_skip ?_
          refine p_tn ?_
          refine c_seq ?_
          refine c_reg ?_
          refine q_step (v := .int .i64 1) hE212 (y_assign rfl) rfl rfl rfl ?_; intro a213 hE214; clear hE212
          refine c_nil ?_
          have hE215 := hE214.sub (L' := [(1, .pointer (some ⟨b2, 0, none⟩)), (4, .slice b58 (((F_s_ClustersOf fp0 fp1).1).length) c59), (5, .int .i64 ((F_s_ClustersOf fp0 fp1).2)), (6, .pointer (some ⟨b83, 0, none⟩)), (7, .slice b104 (((F_ClustersOf fp0 fp1).1).length) c105), (8, .int .i64 ((F_ClustersOf fp0 fp1).2)), (9, .int .i64 1)]) ⟨rfl, rfl, rfl, rfl, rfl, rfl, rfl, trivial⟩; clear hE214
          refine p_tn ?_
          refine c_seq ?_
          refine c_reg ?_
          refine q_step (v := .agg #[.int .i64 fp0, .slice b80 ((fp1).length) c81]) hE215 (y_loadS Try.underlying28 rfl (by kernel_rfl) rfl (St.row (i := 3) hS198 rfl)) rfl rfl rfl ?_; intro a216 hE217; clear hE215
          refine q_step (v := .int .i64 1) hE217 (y_move rfl) rfl rfl rfl ?_; intro a218 hE219; clear hE217
          have hS226 := (St.pick (Γ' := [.own 2 1 b80 ((fp1).length) c81 fp1, .own 2 1 b191 ((fp1).length) c192 fp1, .own 2 1 b104 (((F_ClustersOf fp0 fp1).1).length) c105 ((F_ClustersOf fp0 fp1).1), .blk b83 #[.int .i64 fp0, .slice b80 ((fp1).length) c81] 28, .own 2 1 b58 (((F_s_ClustersOf fp0 fp1).1).length) c59 ((F_s_ClustersOf fp0 fp1).1), .own 2 1 b49 ((fp1).length) c50 fp1, .rd 1 fp1A fp1.length fp1C fp1, .blk b2 #[.int .i64 fp0, .slice fp1A fp1.length fp1C] 24]) hS198 [2, 0, 1, 3, 4, 5, 6, 7] (by decide) rfl); clear hS198
          refine l_step hE219 rfl (l_call (f := 31) (argv := [.agg #[.int .i64 fp0, .slice b80 ((fp1).length) c81], .int .i64 1]) hE219 (fun _ => cf_l_markFrame _ _) rfl rfl (d_l_markFrame fp0 b80 ((fp1).length) c81 fp1 1 w195 w [.own 2 1 b191 ((fp1).length) c192 fp1, .own 2 1 b104 (((F_ClustersOf fp0 fp1).1).length) c105 ((F_ClustersOf fp0 fp1).1), .blk b83 #[.int .i64 fp0, .slice b80 ((fp1).length) c81] 28, .own 2 1 b58 (((F_s_ClustersOf fp0 fp1).1).length) c59 ((F_s_ClustersOf fp0 fp1).1), .own 2 1 b49 ((fp1).length) c50 fp1, .rd 1 fp1A fp1.length fp1C fp1, .blk b2 #[.int .i64 fp0, .slice fp1A fp1.length fp1C] 24] hS226 (by first | omega | (simp only [marked_len]; omega)) (by first | omega | (simp only [marked_len]; omega)) (by first | omega | (simp only [marked_len]; omega))) ?_)
          rintro _ w221 ⟨rfl, hS224⟩ a222 hE223; clear hE219 hS226
          refine q_step (v := .int .i64 (1 + (fp1.length : Int))) hE223 (y_assign rfl) rfl rfl rfl ?_; intro a227 hE228; clear hE223
          refine c_nil ?_
          have hE229 := hE228.sub (L' := [(1, .pointer (some ⟨b2, 0, none⟩)), (4, .slice b58 (((F_s_ClustersOf fp0 fp1).1).length) c59), (5, .int .i64 ((F_s_ClustersOf fp0 fp1).2)), (7, .slice b104 (((F_ClustersOf fp0 fp1).1).length) c105), (8, .int .i64 ((F_ClustersOf fp0 fp1).2)), (9, .int .i64 (1 + (fp1.length : Int)))]) ⟨rfl, rfl, rfl, rfl, rfl, rfl, trivial⟩; clear hE228
          refine p_tn ?_
          refine c_seq ?_
          refine c_cut (fun a' w' => E a' 96 [(1, .pointer (some ⟨b2, 0, none⟩)), (4, .slice b58 (((F_s_ClustersOf fp0 fp1).1).length) c59), (5, .int .i64 ((F_s_ClustersOf fp0 fp1).2)), (7, .slice b104 (((F_ClustersOf fp0 fp1).1).length) c105), (61, .bool ((decide ((1 + (fp1.length : Int)) < 0)) || ((!(decide (((F_ClustersOf fp0 fp1).1) = ((F_s_ClustersOf fp0 fp1).1)))) || (!decide (((F_ClustersOf fp0 fp1).2) = ((F_s_ClustersOf fp0 fp1).2))))))] ∧ St w w' [.own 2 1 b80 ((fp1).length) c81 (marked fp1.length 1), .own 2 1 b191 ((fp1).length) c192 fp1, .own 2 1 b104 (((F_ClustersOf fp0 fp1).1).length) c105 ((F_ClustersOf fp0 fp1).1), .blk b83 #[.int .i64 fp0, .slice b80 ((fp1).length) c81] 28, .own 2 1 b58 (((F_s_ClustersOf fp0 fp1).1).length) c59 ((F_s_ClustersOf fp0 fp1).1), .own 2 1 b49 ((fp1).length) c50 fp1, .rd 1 fp1A fp1.length fp1C fp1, .blk b2 #[.int .i64 fp0, .slice fp1A fp1.length fp1C] 24]) ?_ ?_
          ·
            refine c_reg ?_
            refine q_step (v := .int .i64 (1 + (fp1.length : Int))) hE229 (y_move rfl) rfl rfl rfl ?_; intro a230 hE231; clear hE229
            refine q_step (v := .bool (decide ((1 + (fp1.length : Int)) < 0))) hE231 (y_lss rfl rfl) rfl rfl rfl ?_; intro a232 hE233; clear hE231
            refine q_step (v := .bool (decide ((1 + (fp1.length : Int)) < 0))) hE233 (y_move rfl) rfl rfl rfl ?_; intro a234 hE235; clear hE233
            rcases Bool.eq_false_or_eq_true (decide ((1 + (fp1.length : Int)) < 0)) with hb236 | hb236
            ·
              have hE237 := hE235; rw [hb236] at hE237; clear hE235
              have hp238 := of_decide_eq_true hb236
              refine q_skip hE237 rfl rfl rfl ?_; intro a239 hE240; clear hE237
              refine q_skip hE240 rfl rfl rfl ?_; intro a241 hE242; clear hE240
              refine q_skip hE242 rfl rfl rfl ?_; intro a243 hE244; clear hE242
              refine q_skip hE244 rfl rfl rfl ?_; intro a245 hE246; clear hE244
              refine q_step (v := .bool true) hE246 (y_pick (b := true) rfl rfl) rfl rfl rfl ?_; intro a247 hE248; clear hE246
              refine q_step (v := .bool true) hE248 (y_move rfl) rfl rfl rfl ?_; intro a249 hE250; clear hE248
              refine q_skip hE250 rfl rfl rfl ?_; intro a251 hE252; clear hE250
              refine q_skip hE252 rfl rfl rfl ?_; intro a253 hE254; clear hE252
              refine q_skip hE254 rfl rfl rfl ?_; intro a255 hE256; clear hE254
              refine q_step (v := .bool true) hE256 (y_pick (b := true) rfl rfl) rfl rfl rfl ?_; intro a257 hE258; clear hE256
              refine c_nil ?_
              have hE259 := hE258.sub (L' := [(1, .pointer (some ⟨b2, 0, none⟩)), (4, .slice b58 (((F_s_ClustersOf fp0 fp1).1).length) c59), (5, .int .i64 ((F_s_ClustersOf fp0 fp1).2)), (7, .slice b104 (((F_ClustersOf fp0 fp1).1).length) c105), (61, .bool true)]) ⟨rfl, rfl, rfl, rfl, rfl, trivial⟩; clear hE258
              refine p_tn ?_
              have hE260 := hE259.sub (L' := [(1, .pointer (some ⟨b2, 0, none⟩)), (4, .slice b58 (((F_s_ClustersOf fp0 fp1).1).length) c59), (5, .int .i64 ((F_s_ClustersOf fp0 fp1).2)), (7, .slice b104 (((F_ClustersOf fp0 fp1).1).length) c105), (61, .bool true)]) ⟨rfl, rfl, rfl, rfl, rfl, trivial⟩
              have hS261 := (St.pick (Γ' := [.own 2 1 b80 ((fp1).length) c81 (marked fp1.length 1), .own 2 1 b191 ((fp1).length) c192 fp1, .own 2 1 b104 (((F_ClustersOf fp0 fp1).1).length) c105 ((F_ClustersOf fp0 fp1).1), .blk b83 #[.int .i64 fp0, .slice b80 ((fp1).length) c81] 28, .own 2 1 b58 (((F_s_ClustersOf fp0 fp1).1).length) c59 ((F_s_ClustersOf fp0 fp1).1), .own 2 1 b49 ((fp1).length) c50 fp1, .rd 1 fp1A fp1.length fp1C fp1, .blk b2 #[.int .i64 fp0, .slice fp1A fp1.length fp1C] 24]) hS224 [0, 1, 2, 3, 4, 5, 6, 7] (by decide) rfl)
              exact ⟨(by rw [hb236]; exact hE260), hS261⟩
            ·
              have hE262 := hE235; rw [hb236] at hE262; clear hE235
              have hp263 := of_decide_eq_false hb236
              refine q_step (v := .slice b104 (((F_ClustersOf fp0 fp1).1).length) c105) hE262 (y_move rfl) rfl rfl rfl ?_; intro a264 hE265; clear hE262
              refine q_step (v := .slice b58 (((F_s_ClustersOf fp0 fp1).1).length) c59) hE265 (y_move rfl) rfl rfl rfl ?_; intro a266 hE267; clear hE265
              refine l_step hE267 rfl (l_call (f := 21) (argv := [.slice b104 (((F_ClustersOf fp0 fp1).1).length) c105, .slice b58 (((F_s_ClustersOf fp0 fp1).1).length) c59]) hE267 (fun _ => cf_l_eqInt64S _ _) rfl rfl (d_l_eqInt64S b104 (((F_ClustersOf fp0 fp1).1).length) c105 ((F_ClustersOf fp0 fp1).1) b58 (((F_s_ClustersOf fp0 fp1).1).length) c59 ((F_s_ClustersOf fp0 fp1).1) w221 (St.rdO (i := 2) hS224 rfl) (St.rdO (i := 4) hS224 rfl)) ?_)
              rintro _ w269 ⟨rfl, he273⟩ a270 hE271; clear hE267
              have hS272 := St.go hS224 he273; clear hS224
              refine q_step (v := .bool (!(decide (((F_ClustersOf fp0 fp1).1) = ((F_s_ClustersOf fp0 fp1).1))))) hE271 (y_not rfl) rfl rfl rfl ?_; intro a274 hE275; clear hE271
              refine q_step (v := .bool (!(decide (((F_ClustersOf fp0 fp1).1) = ((F_s_ClustersOf fp0 fp1).1))))) hE275 (y_pick (b := false) rfl rfl) rfl rfl rfl ?_; intro a276 hE277; clear hE275
              refine q_step (v := .bool (!(decide (((F_ClustersOf fp0 fp1).1) = ((F_s_ClustersOf fp0 fp1).1))))) hE277 (y_move rfl) rfl rfl rfl ?_; intro a278 hE279; clear hE277
              rcases Bool.eq_false_or_eq_true (!(decide (((F_ClustersOf fp0 fp1).1) = ((F_s_ClustersOf fp0 fp1).1)))) with hb280 | hb280
              ·
                have hE281 := hE279; rw [hb280] at hE281; clear hE279
                have ht282 := bn_t hb280
                have hp283 := of_decide_eq_false ht282
                refine q_skip hE281 rfl rfl rfl ?_; intro a284 hE285; clear hE281
                refine q_skip hE285 rfl rfl rfl ?_; intro a286 hE287; clear hE285
                refine q_skip hE287 rfl rfl rfl ?_; intro a288 hE289; clear hE287
                refine q_step (v := .bool true) hE289 (y_pick (b := true) rfl rfl) rfl rfl rfl ?_; intro a290 hE291; clear hE289
                refine c_nil ?_
                have hE292 := hE291.sub (L' := [(1, .pointer (some ⟨b2, 0, none⟩)), (4, .slice b58 (((F_s_ClustersOf fp0 fp1).1).length) c59), (5, .int .i64 ((F_s_ClustersOf fp0 fp1).2)), (7, .slice b104 (((F_ClustersOf fp0 fp1).1).length) c105), (61, .bool true)]) ⟨rfl, rfl, rfl, rfl, rfl, trivial⟩; clear hE291
                refine p_tn ?_
                have hE293 := hE292.sub (L' := [(1, .pointer (some ⟨b2, 0, none⟩)), (4, .slice b58 (((F_s_ClustersOf fp0 fp1).1).length) c59), (5, .int .i64 ((F_s_ClustersOf fp0 fp1).2)), (7, .slice b104 (((F_ClustersOf fp0 fp1).1).length) c105), (61, .bool true)]) ⟨rfl, rfl, rfl, rfl, rfl, trivial⟩
                have hS294 := (St.pick (Γ' := [.own 2 1 b80 ((fp1).length) c81 (marked fp1.length 1), .own 2 1 b191 ((fp1).length) c192 fp1, .own 2 1 b104 (((F_ClustersOf fp0 fp1).1).length) c105 ((F_ClustersOf fp0 fp1).1), .blk b83 #[.int .i64 fp0, .slice b80 ((fp1).length) c81] 28, .own 2 1 b58 (((F_s_ClustersOf fp0 fp1).1).length) c59 ((F_s_ClustersOf fp0 fp1).1), .own 2 1 b49 ((fp1).length) c50 fp1, .rd 1 fp1A fp1.length fp1C fp1, .blk b2 #[.int .i64 fp0, .slice fp1A fp1.length fp1C] 24]) hS272 [0, 1, 2, 3, 4, 5, 6, 7] (by decide) rfl)
                exact ⟨(by rw [hb280, hb236]; exact hE293), hS294⟩
              ·
                have hE295 := hE279; rw [hb280] at hE295; clear hE279
                have ht296 := bn_f hb280
                have hp297 := of_decide_eq_true ht296
                refine q_step (v := .int .i64 ((F_ClustersOf fp0 fp1).2)) hE295 (y_move rfl) rfl rfl rfl ?_; intro a298 hE299; clear hE295
                refine q_step (v := .int .i64 ((F_s_ClustersOf fp0 fp1).2)) hE299 (y_move rfl) rfl rfl rfl ?_; intro a300 hE301; clear hE299
                refine q_step (v := .bool (!decide (((F_ClustersOf fp0 fp1).2) = ((F_s_ClustersOf fp0 fp1).2)))) hE301 (y_neq rfl rfl) rfl rfl rfl ?_; intro a302 hE303; clear hE301
                refine q_step (v := .bool (!decide (((F_ClustersOf fp0 fp1).2) = ((F_s_ClustersOf fp0 fp1).2)))) hE303 (y_pick (b := false) rfl rfl) rfl rfl rfl ?_; intro a304 hE305; clear hE303
                refine c_nil ?_
                have hE306 := hE305.sub (L' := [(1, .pointer (some ⟨b2, 0, none⟩)), (4, .slice b58 (((F_s_ClustersOf fp0 fp1).1).length) c59), (5, .int .i64 ((F_s_ClustersOf fp0 fp1).2)), (7, .slice b104 (((F_ClustersOf fp0 fp1).1).length) c105), (61, .bool (!decide (((F_ClustersOf fp0 fp1).2) = ((F_s_ClustersOf fp0 fp1).2))))]) ⟨rfl, rfl, rfl, rfl, rfl, trivial⟩; clear hE305
                refine p_tn ?_
                have hE307 := hE306.sub (L' := [(1, .pointer (some ⟨b2, 0, none⟩)), (4, .slice b58 (((F_s_ClustersOf fp0 fp1).1).length) c59), (5, .int .i64 ((F_s_ClustersOf fp0 fp1).2)), (7, .slice b104 (((F_ClustersOf fp0 fp1).1).length) c105), (61, .bool (!decide (((F_ClustersOf fp0 fp1).2) = ((F_s_ClustersOf fp0 fp1).2))))]) ⟨rfl, rfl, rfl, rfl, rfl, trivial⟩
                have hS308 := (St.pick (Γ' := [.own 2 1 b80 ((fp1).length) c81 (marked fp1.length 1), .own 2 1 b191 ((fp1).length) c192 fp1, .own 2 1 b104 (((F_ClustersOf fp0 fp1).1).length) c105 ((F_ClustersOf fp0 fp1).1), .blk b83 #[.int .i64 fp0, .slice b80 ((fp1).length) c81] 28, .own 2 1 b58 (((F_s_ClustersOf fp0 fp1).1).length) c59 ((F_s_ClustersOf fp0 fp1).1), .own 2 1 b49 ((fp1).length) c50 fp1, .rd 1 fp1A fp1.length fp1C fp1, .blk b2 #[.int .i64 fp0, .slice fp1A fp1.length fp1C] 24]) hS272 [0, 1, 2, 3, 4, 5, 6, 7] (by decide) rfl)
                exact ⟨(by rw [hb280, hb236]; exact hE307), hS308⟩
          ·
            rintro a309 w310 ⟨hE311, hS312⟩; clear hE229 hS224
            refine c_cond hE311 rfl (fun ht313 => ?_) (fun ht313 => ?_)
            ·
              have hE314 := hE311; rw [ht313] at hE314; clear hE311
              refine c_seq ?_
              refine c_reg ?_
              refine q_step (v := .bool false) hE314 (y_assign rfl) rfl rfl rfl ?_; intro a315 hE316; clear hE314
              refine c_nil ?_
              have hE317 := hE316.sub (L' := [(2, .bool false)]) ⟨rfl, trivial⟩; clear hE316
              refine p_tn ?_
              refine wp_ret ?_
              refine p_tr ?_
              have hF : F_l_FnExactClustersOf fp0 fp1 = false := by unfold F_l_FnExactClustersOf; rw [ht313, ht203, ht166, ht32]; first | done | rfl
              refine c_ret1 hE317 rfl rfl ?_
              exact ⟨(by rw [hF]; first | done | rfl), hS312.ext⟩
            ·
              obtain ⟨ht318, ht319⟩ := bor_f ht313
              have hp320 := of_decide_eq_false ht318
              obtain ⟨ht321, ht322⟩ := bor_f ht319
              have ht323 := bn_f ht321
              have hp324 := of_decide_eq_true ht323
              have ht325 := bn_f ht322
              have hp326 := of_decide_eq_true ht325
              have hE327 := hE311; rw [ht313] at hE327; clear hE311
              refine wp_skip ?_
              refine p_tn ?_
              refine c_seq ?_
              refine c_reg ?_
              refine q_step (v := .int .i64 1) hE327 (y_assign rfl) rfl rfl rfl ?_; intro a328 hE329; clear hE327
              refine c_nil ?_
              have hE330 := hE329.sub (L' := [(1, .pointer (some ⟨b2, 0, none⟩)), (4, .slice b58 (((F_s_ClustersOf fp0 fp1).1).length) c59), (5, .int .i64 ((F_s_ClustersOf fp0 fp1).2)), (7, .slice b104 (((F_ClustersOf fp0 fp1).1).length) c105), (10, .int .i64 1)]) ⟨rfl, rfl, rfl, rfl, rfl, trivial⟩; clear hE329
              refine p_tn ?_
              refine c_seq ?_
              refine c_reg ?_
              refine q_step (v := .slice b104 (((F_ClustersOf fp0 fp1).1).length) c105) hE330 (y_move rfl) rfl rfl rfl ?_; intro a331 hE332; clear hE330
              refine q_step (v := .int .i64 1) hE332 (y_move rfl) rfl rfl rfl ?_; intro a333 hE334; clear hE332
              have hS341 := (St.pick (Γ' := [.own 2 1 b104 (((F_ClustersOf fp0 fp1).1).length) c105 ((F_ClustersOf fp0 fp1).1), .own 2 1 b80 ((fp1).length) c81 (marked fp1.length 1), .own 2 1 b191 ((fp1).length) c192 fp1, .blk b83 #[.int .i64 fp0, .slice b80 ((fp1).length) c81] 28, .own 2 1 b58 (((F_s_ClustersOf fp0 fp1).1).length) c59 ((F_s_ClustersOf fp0 fp1).1), .own 2 1 b49 ((fp1).length) c50 fp1, .rd 1 fp1A fp1.length fp1C fp1, .blk b2 #[.int .i64 fp0, .slice fp1A fp1.length fp1C] 24]) hS312 [2, 0, 1, 3, 4, 5, 6, 7] (by decide) rfl); clear hS312
              refine l_step hE334 rfl (l_call (f := 32) (argv := [.slice b104 (((F_ClustersOf fp0 fp1).1).length) c105, .int .i64 1]) hE334 (fun _ => cf_l_markInt64S _ _) rfl rfl (d_l_markInt64S b104 (((F_ClustersOf fp0 fp1).1).length) c105 ((F_ClustersOf fp0 fp1).1) 1 w310 w [.own 2 1 b80 ((fp1).length) c81 (marked fp1.length 1), .own 2 1 b191 ((fp1).length) c192 fp1, .blk b83 #[.int .i64 fp0, .slice b80 ((fp1).length) c81] 28, .own 2 1 b58 (((F_s_ClustersOf fp0 fp1).1).length) c59 ((F_s_ClustersOf fp0 fp1).1), .own 2 1 b49 ((fp1).length) c50 fp1, .rd 1 fp1A fp1.length fp1C fp1, .blk b2 #[.int .i64 fp0, .slice fp1A fp1.length fp1C] 24] hS341 (by first | omega | (simp only [marked_len]; omega)) (by first | omega | (simp only [marked_len]; omega)) (by first | omega | (simp only [marked_len]; omega))) ?_)
              rintro _ w336 ⟨rfl, hS339⟩ a337 hE338; clear hE334 hS341
              refine q_step (v := .int .i64 (1 + (((F_ClustersOf fp0 fp1).1).length : Int))) hE338 (y_assign rfl) rfl rfl rfl ?_; intro a342 hE343; clear hE338
              refine c_nil ?_
              have hE344 := hE343.sub (L' := [(1, .pointer (some ⟨b2, 0, none⟩)), (4, .slice b58 (((F_s_ClustersOf fp0 fp1).1).length) c59), (5, .int .i64 ((F_s_ClustersOf fp0 fp1).2)), (7, .slice b104 (((F_ClustersOf fp0 fp1).1).length) c105), (10, .int .i64 (1 + (((F_ClustersOf fp0 fp1).1).length : Int)))]) ⟨rfl, rfl, rfl, rfl, rfl, trivial⟩; clear hE343
              refine p_tn ?_
              refine c_seq ?_
              refine c_reg ?_
              refine q_step (v := .int .i64 1) hE344 (y_assign rfl) rfl rfl rfl ?_; intro a345 hE346; clear hE344
              refine c_nil ?_
              have hE347 := hE346.sub (L' := [(1, .pointer (some ⟨b2, 0, none⟩)), (4, .slice b58 (((F_s_ClustersOf fp0 fp1).1).length) c59), (5, .int .i64 ((F_s_ClustersOf fp0 fp1).2)), (7, .slice b104 (((F_ClustersOf fp0 fp1).1).length) c105), (10, .int .i64 (1 + (((F_ClustersOf fp0 fp1).1).length : Int))), (11, .int .i64 1)]) ⟨rfl, rfl, rfl, rfl, rfl, rfl, trivial⟩; clear hE346
              refine p_tn ?_
              refine c_seq ?_
              refine c_reg ?_
              refine q_step (v := .slice b104 (((F_ClustersOf fp0 fp1).1).length) c105) hE347 (y_move rfl) rfl rfl rfl ?_; intro a348 hE349; clear hE347
              refine q_step (v := .int .i64 1) hE349 (y_move rfl) rfl rfl rfl ?_; intro a350 hE351; clear hE349
              refine l_step hE351 rfl (l_call (f := 45) (argv := [.slice b104 (((F_ClustersOf fp0 fp1).1).length) c105, .int .i64 1]) hE351 (fun _ => cf_l_heldInt64S _ _) rfl rfl (c_l_heldInt64S b104 (((F_ClustersOf fp0 fp1).1).length) c105 (marked ((F_ClustersOf fp0 fp1).1).length 1) 1 w336 (St.rdO (i := 0) hS339 rfl) (by first | omega | (simp only [marked_len]; omega)) (by first | omega | (simp only [marked_len]; omega)) (by first | omega | (simp only [marked_len]; omega))) ?_)
              rintro _ w353 ⟨rfl, he357⟩ a354 hE355; clear hE351
              have hS356 := St.go hS339 he357; clear hS339
              refine q_step (v := .int .i64 (F_l_heldInt64S (marked ((F_ClustersOf fp0 fp1).1).length 1) 1)) hE355 (y_assign rfl) rfl rfl rfl ?_; intro a358 hE359; clear hE355
              refine c_nil ?_
              have hE360 := hE359.sub (L' := [(1, .pointer (some ⟨b2, 0, none⟩)), (4, .slice b58 (((F_s_ClustersOf fp0 fp1).1).length) c59), (5, .int .i64 ((F_s_ClustersOf fp0 fp1).2)), (7, .slice b104 (((F_ClustersOf fp0 fp1).1).length) c105), (10, .int .i64 (1 + (((F_ClustersOf fp0 fp1).1).length : Int))), (11, .int .i64 (F_l_heldInt64S (marked ((F_ClustersOf fp0 fp1).1).length 1) 1))]) ⟨rfl, rfl, rfl, rfl, rfl, rfl, trivial⟩; clear hE359
              refine p_tn ?_
              refine c_seq ?_
              refine c_seq ?_
              refine c_reg ?_
              refine q_step (v := .int .i64 (F_l_heldInt64S (marked ((F_ClustersOf fp0 fp1).1).length 1) 1)) hE360 (y_move rfl) rfl rfl rfl ?_; intro a361 hE362; clear hE360
              refine q_step (v := .bool (decide ((F_l_heldInt64S (marked ((F_ClustersOf fp0 fp1).1).length 1) 1) < 0))) hE362 (y_lss rfl rfl) rfl rfl rfl ?_; intro a363 hE364; clear hE362
              refine c_nil ?_
              have hE365 := hE364.sub (L' := [(1, .pointer (some ⟨b2, 0, none⟩)), (4, .slice b58 (((F_s_ClustersOf fp0 fp1).1).length) c59), (5, .int .i64 ((F_s_ClustersOf fp0 fp1).2)), (7, .slice b104 (((F_ClustersOf fp0 fp1).1).length) c105), (10, .int .i64 (1 + (((F_ClustersOf fp0 fp1).1).length : Int))), (11, .int .i64 (F_l_heldInt64S (marked ((F_ClustersOf fp0 fp1).1).length 1) 1)), (69, .bool (decide ((F_l_heldInt64S (marked ((F_ClustersOf fp0 fp1).1).length 1) 1) < 0)))]) ⟨rfl, rfl, rfl, rfl, rfl, rfl, rfl, trivial⟩; clear hE364
              refine p_tn ?_
              refine c_cond hE365 rfl (fun ht366 => ?_) (fun ht366 => ?_)
              ·
                have hp367 := of_decide_eq_true ht366
                have hE368 := hE365; rw [ht366] at hE368; clear hE365
                refine c_seq ?_
                refine c_reg ?_
                refine q_step (v := .bool false) hE368 (y_assign rfl) rfl rfl rfl ?_; intro a369 hE370; clear hE368
                refine c_nil ?_
                have hE371 := hE370.sub (L' := [(2, .bool false)]) ⟨rfl, trivial⟩; clear hE370
                refine p_tn ?_
                refine wp_ret ?_
                refine p_tr ?_
                have hF : F_l_FnExactClustersOf fp0 fp1 = false := by unfold F_l_FnExactClustersOf; rw [ht366, ht313, ht203, ht166, ht32]; first | done | rfl
                refine c_ret1 hE371 rfl rfl ?_
                exact ⟨(by rw [hF]; first | done | rfl), hS356.ext⟩
              ·
                have hp372 := of_decide_eq_false ht366
                have hE373 := hE365; rw [ht366] at hE373; clear hE365
                refine wp_skip ?_
                refine p_tn ?_
                refine c_seq ?_
                refine c_seq ?_
                refine c_reg ?_
                refine q_step (v := .int .i64 (F_l_heldInt64S (marked ((F_ClustersOf fp0 fp1).1).length 1) 1)) hE373 (y_move rfl) rfl rfl rfl ?_; intro a374 hE375; clear hE373
                refine q_step (v := .int .i64 (1 + (((F_ClustersOf fp0 fp1).1).length : Int))) hE375 (y_move rfl) rfl rfl rfl ?_; intro a376 hE377; clear hE375
                refine q_step (v := .bool (!decide ((F_l_heldInt64S (marked ((F_ClustersOf fp0 fp1).1).length 1) 1) = (1 + (((F_ClustersOf fp0 fp1).1).length : Int))))) hE377 (y_neq rfl rfl) rfl rfl rfl ?_; intro a378 hE379; clear hE377
                refine c_nil ?_
                have hE380 := hE379.sub (L' := [(1, .pointer (some ⟨b2, 0, none⟩)), (4, .slice b58 (((F_s_ClustersOf fp0 fp1).1).length) c59), (5, .int .i64 ((F_s_ClustersOf fp0 fp1).2)), (7, .slice b104 (((F_ClustersOf fp0 fp1).1).length) c105), (10, .int .i64 (1 + (((F_ClustersOf fp0 fp1).1).length : Int))), (72, .bool (!decide ((F_l_heldInt64S (marked ((F_ClustersOf fp0 fp1).1).length 1) 1) = (1 + (((F_ClustersOf fp0 fp1).1).length : Int)))))]) ⟨rfl, rfl, rfl, rfl, rfl, rfl, trivial⟩; clear hE379
                refine p_tn ?_
                refine c_cond hE380 rfl (fun ht381 => ?_) (fun ht381 => ?_)
                ·
                  have ht382 := bn_t ht381
                  have hp383 := of_decide_eq_false ht382
                  have hE384 := hE380; rw [ht381] at hE384; clear hE380
                  refine c_seq ?_
                  refine c_reg ?_
                  refine q_step (v := .bool false) hE384 (y_assign rfl) rfl rfl rfl ?_; intro a385 hE386; clear hE384
                  refine c_nil ?_
                  have hE387 := hE386.sub (L' := [(2, .bool false)]) ⟨rfl, trivial⟩; clear hE386
                  refine p_tn ?_
                  refine wp_ret ?_
                  refine p_tr ?_
                  have hF : F_l_FnExactClustersOf fp0 fp1 = false := by unfold F_l_FnExactClustersOf; rw [ht381, ht366, ht313, ht203, ht166, ht32]; first | done | rfl
                  refine c_ret1 hE387 rfl rfl ?_
                  exact ⟨(by rw [hF]; first | done | rfl), hS356.ext⟩
                ·
                  have ht388 := bn_f ht381
                  have hp389 := of_decide_eq_true ht388
                  have hE390 := hE380; rw [ht381] at hE390; clear hE380
                  refine wp_skip ?_
                  refine p_tn ?_
                  refine c_seq ?_
                  refine c_reg ?_
                  refine q_step (v := .agg #[.int .i64 fp0, .slice fp1A fp1.length fp1C]) hE390 (y_loadS Try.underlying24 rfl (by kernel_rfl) rfl (St.row (i := 7) hS356 rfl)) rfl rfl rfl ?_; intro a391 hE392; clear hE390
                  refine l_step hE392 rfl (l_call (f := 17) (argv := [.agg #[.int .i64 fp0, .slice fp1A fp1.length fp1C]]) hE392 (fun _ => cf_l_toFrame _ _) rfl rfl (d_l_toFrame fp0 fp1A fp1.length fp1C fp1 w353 (St.rdR (i := 6) hS356 rfl) (by first | omega | (simp only [marked_len]; omega))) ?_)
                  rintro _ w394 ⟨b399, c400, rfl, ho401, he398⟩ a395 hE396; clear hE392
                  have hS397 := St.own hS356 he398 ho401; clear hS356
                  refine l_step hE396 rfl (l_call (f := 44) (argv := [.agg #[.int .i64 fp0, .slice b399 ((fp1).length) c400]]) hE396 (fun _ => cf_ClustersOf _ _) rfl rfl (c_ClustersOf fp0 b399 ((fp1).length) c400 fp1 w394 (St.rdO (i := 0) hS397 rfl)) ?_)
                  rintro _ w403 ⟨b408, c409, rfl, ho410, he407⟩ a404 hE405; clear hE396
                  have hf411 := ClustersOf_len fp0 fp1
                  have hS406 := St.own hS397 he407 ho410; clear hS397
                  refine q_step (v := .tuple #[.slice b408 (((F_ClustersOf fp0 fp1).1).length) c409, .int .i64 ((F_ClustersOf fp0 fp1).2)]) hE405 (y_move rfl) rfl rfl rfl ?_; intro a412 hE413; clear hE405
                  refine q_step (v := .slice b408 (((F_ClustersOf fp0 fp1).1).length) c409) hE413 (y_extract rfl rfl) rfl rfl rfl ?_; intro a414 hE415; clear hE413
                  refine q_step (v := .int .i64 ((F_ClustersOf fp0 fp1).2)) hE415 (y_extract rfl rfl) rfl rfl rfl ?_; intro a416 hE417; clear hE415
                  refine q_step (v := .slice b408 (((F_ClustersOf fp0 fp1).1).length) c409) hE417 (y_assign rfl) rfl rfl rfl ?_; intro a418 hE419; clear hE417
                  refine q_step (v := .int .i64 ((F_ClustersOf fp0 fp1).2)) hE419 (y_assign rfl) rfl rfl rfl ?_; intro a420 hE421; clear hE419
                  refine c_nil ?_
                  have hE422 := hE421.sub (L' := [(4, .slice b58 (((F_s_ClustersOf fp0 fp1).1).length) c59), (5, .int .i64 ((F_s_ClustersOf fp0 fp1).2)), (7, .slice b104 (((F_ClustersOf fp0 fp1).1).length) c105), (10, .int .i64 (1 + (((F_ClustersOf fp0 fp1).1).length : Int))), (12, .slice b408 (((F_ClustersOf fp0 fp1).1).length) c409), (13, .int .i64 ((F_ClustersOf fp0 fp1).2))]) ⟨rfl, rfl, rfl, rfl, rfl, rfl, trivial⟩; clear hE421
                  refine p_tn ?_
                  refine c_seq ?_
                  refine c_cut (fun a' w' => E a' 96 [(7, .slice b104 (((F_ClustersOf fp0 fp1).1).length) c105), (10, .int .i64 (1 + (((F_ClustersOf fp0 fp1).1).length : Int))), (87, .bool ((!(decide (((F_ClustersOf fp0 fp1).1) = ((F_s_ClustersOf fp0 fp1).1)))) || (!decide (((F_ClustersOf fp0 fp1).2) = ((F_s_ClustersOf fp0 fp1).2)))))] ∧ St w w' [.own 2 1 b408 (((F_ClustersOf fp0 fp1).1).length) c409 ((F_ClustersOf fp0 fp1).1), .own 2 1 b399 ((fp1).length) c400 fp1, .own 2 1 b104 (((F_ClustersOf fp0 fp1).1).length) c105 (marked ((F_ClustersOf fp0 fp1).1).length 1), .own 2 1 b80 ((fp1).length) c81 (marked fp1.length 1), .own 2 1 b191 ((fp1).length) c192 fp1, .blk b83 #[.int .i64 fp0, .slice b80 ((fp1).length) c81] 28, .own 2 1 b58 (((F_s_ClustersOf fp0 fp1).1).length) c59 ((F_s_ClustersOf fp0 fp1).1), .own 2 1 b49 ((fp1).length) c50 fp1, .rd 1 fp1A fp1.length fp1C fp1, .blk b2 #[.int .i64 fp0, .slice fp1A fp1.length fp1C] 24]) ?_ ?_
                  ·
                    refine c_reg ?_
                    refine q_step (v := .slice b408 (((F_ClustersOf fp0 fp1).1).length) c409) hE422 (y_move rfl) rfl rfl rfl ?_; intro a423 hE424; clear hE422
                    refine q_step (v := .slice b58 (((F_s_ClustersOf fp0 fp1).1).length) c59) hE424 (y_move rfl) rfl rfl rfl ?_; intro a425 hE426; clear hE424
                    refine l_step hE426 rfl (l_call (f := 21) (argv := [.slice b408 (((F_ClustersOf fp0 fp1).1).length) c409, .slice b58 (((F_s_ClustersOf fp0 fp1).1).length) c59]) hE426 (fun _ => cf_l_eqInt64S _ _) rfl rfl (d_l_eqInt64S b408 (((F_ClustersOf fp0 fp1).1).length) c409 ((F_ClustersOf fp0 fp1).1) b58 (((F_s_ClustersOf fp0 fp1).1).length) c59 ((F_s_ClustersOf fp0 fp1).1) w403 (St.rdO (i := 0) hS406 rfl) (St.rdO (i := 6) hS406 rfl)) ?_)
                    rintro _ w428 ⟨rfl, he432⟩ a429 hE430; clear hE426
                    have hS431 := St.go hS406 he432; clear hS406
                    refine q_step (v := .bool (!(decide (((F_ClustersOf fp0 fp1).1) = ((F_s_ClustersOf fp0 fp1).1))))) hE430 (y_not rfl) rfl rfl rfl ?_; intro a433 hE434; clear hE430
                    refine q_step (v := .bool (!(decide (((F_ClustersOf fp0 fp1).1) = ((F_s_ClustersOf fp0 fp1).1))))) hE434 (y_move rfl) rfl rfl rfl ?_; intro a435 hE436; clear hE434
                    rcases Bool.eq_false_or_eq_true (!(decide (((F_ClustersOf fp0 fp1).1) = ((F_s_ClustersOf fp0 fp1).1)))) with hb437 | hb437
                    ·
                      have hE438 := hE436; rw [hb437] at hE438; clear hE436
                      have ht439 := bn_t hb437
                      have hp440 := of_decide_eq_false ht439
                      refine q_skip hE438 rfl rfl rfl ?_; intro a441 hE442; clear hE438
                      refine q_skip hE442 rfl rfl rfl ?_; intro a443 hE444; clear hE442
                      refine q_skip hE444 rfl rfl rfl ?_; intro a445 hE446; clear hE444
                      refine q_step (v := .bool true) hE446 (y_pick (b := true) rfl rfl) rfl rfl rfl ?_; intro a447 hE448; clear hE446
                      refine c_nil ?_
                      have hE449 := hE448.sub (L' := [(7, .slice b104 (((F_ClustersOf fp0 fp1).1).length) c105), (10, .int .i64 (1 + (((F_ClustersOf fp0 fp1).1).length : Int))), (87, .bool true)]) ⟨rfl, rfl, rfl, trivial⟩; clear hE448
                      refine p_tn ?_
                      have hE450 := hE449.sub (L' := [(7, .slice b104 (((F_ClustersOf fp0 fp1).1).length) c105), (10, .int .i64 (1 + (((F_ClustersOf fp0 fp1).1).length : Int))), (87, .bool true)]) ⟨rfl, rfl, rfl, trivial⟩
                      have hS451 := (St.pick (Γ' := [.own 2 1 b408 (((F_ClustersOf fp0 fp1).1).length) c409 ((F_ClustersOf fp0 fp1).1), .own 2 1 b399 ((fp1).length) c400 fp1, .own 2 1 b104 (((F_ClustersOf fp0 fp1).1).length) c105 (marked ((F_ClustersOf fp0 fp1).1).length 1), .own 2 1 b80 ((fp1).length) c81 (marked fp1.length 1), .own 2 1 b191 ((fp1).length) c192 fp1, .blk b83 #[.int .i64 fp0, .slice b80 ((fp1).length) c81] 28, .own 2 1 b58 (((F_s_ClustersOf fp0 fp1).1).length) c59 ((F_s_ClustersOf fp0 fp1).1), .own 2 1 b49 ((fp1).length) c50 fp1, .rd 1 fp1A fp1.length fp1C fp1, .blk b2 #[.int .i64 fp0, .slice fp1A fp1.length fp1C] 24]) hS431 [0, 1, 2, 3, 4, 5, 6, 7, 8, 9] (by decide) rfl)
                      exact ⟨(by rw [hb437]; exact hE450), hS451⟩
                    ·
                      have hE452 := hE436; rw [hb437] at hE452; clear hE436
                      have ht453 := bn_f hb437
                      have hp454 := of_decide_eq_true ht453
                      refine q_step (v := .int .i64 ((F_ClustersOf fp0 fp1).2)) hE452 (y_move rfl) rfl rfl rfl ?_; intro a455 hE456; clear hE452
                      refine q_step (v := .int .i64 ((F_s_ClustersOf fp0 fp1).2)) hE456 (y_move rfl) rfl rfl rfl ?_; intro a457 hE458; clear hE456
                      refine q_step (v := .bool (!decide (((F_ClustersOf fp0 fp1).2) = ((F_s_ClustersOf fp0 fp1).2)))) hE458 (y_neq rfl rfl) rfl rfl rfl ?_; intro a459 hE460; clear hE458
                      refine q_step (v := .bool (!decide (((F_ClustersOf fp0 fp1).2) = ((F_s_ClustersOf fp0 fp1).2)))) hE460 (y_pick (b := false) rfl rfl) rfl rfl rfl ?_; intro a461 hE462; clear hE460
                      refine c_nil ?_
                      have hE463 := hE462.sub (L' := [(7, .slice b104 (((F_ClustersOf fp0 fp1).1).length) c105), (10, .int .i64 (1 + (((F_ClustersOf fp0 fp1).1).length : Int))), (87, .bool (!decide (((F_ClustersOf fp0 fp1).2) = ((F_s_ClustersOf fp0 fp1).2))))]) ⟨rfl, rfl, rfl, trivial⟩; clear hE462
                      refine p_tn ?_
                      have hE464 := hE463.sub (L' := [(7, .slice b104 (((F_ClustersOf fp0 fp1).1).length) c105), (10, .int .i64 (1 + (((F_ClustersOf fp0 fp1).1).length : Int))), (87, .bool (!decide (((F_ClustersOf fp0 fp1).2) = ((F_s_ClustersOf fp0 fp1).2))))]) ⟨rfl, rfl, rfl, trivial⟩
                      have hS465 := (St.pick (Γ' := [.own 2 1 b408 (((F_ClustersOf fp0 fp1).1).length) c409 ((F_ClustersOf fp0 fp1).1), .own 2 1 b399 ((fp1).length) c400 fp1, .own 2 1 b104 (((F_ClustersOf fp0 fp1).1).length) c105 (marked ((F_ClustersOf fp0 fp1).1).length 1), .own 2 1 b80 ((fp1).length) c81 (marked fp1.length 1), .own 2 1 b191 ((fp1).length) c192 fp1, .blk b83 #[.int .i64 fp0, .slice b80 ((fp1).length) c81] 28, .own 2 1 b58 (((F_s_ClustersOf fp0 fp1).1).length) c59 ((F_s_ClustersOf fp0 fp1).1), .own 2 1 b49 ((fp1).length) c50 fp1, .rd 1 fp1A fp1.length fp1C fp1, .blk b2 #[.int .i64 fp0, .slice fp1A fp1.length fp1C] 24]) hS431 [0, 1, 2, 3, 4, 5, 6, 7, 8, 9] (by decide) rfl)
                      exact ⟨(by rw [hb437]; exact hE464), hS465⟩
                  ·
                    rintro a466 w467 ⟨hE468, hS469⟩; clear hE422 hS406
                    have hE470 := hE468; rw [ht166] at hE470; clear hE468
                    refine c_false hE470 rfl ?_
                    refine wp_skip ?_
                    refine p_tn ?_
                    refine c_seq ?_
                    refine c_reg ?_
                    refine q_step (v := .int .i64 1) hE470 (y_assign rfl) rfl rfl rfl ?_; intro a471 hE472; clear hE470
                    refine c_nil ?_
                    have hE473 := hE472.sub (L' := [(7, .slice b104 (((F_ClustersOf fp0 fp1).1).length) c105), (10, .int .i64 (1 + (((F_ClustersOf fp0 fp1).1).length : Int))), (11, .int .i64 1)]) ⟨rfl, rfl, rfl, trivial⟩; clear hE472
                    refine p_tn ?_
                    refine c_seq ?_
                    refine c_reg ?_
                    refine q_step (v := .slice b104 (((F_ClustersOf fp0 fp1).1).length) c105) hE473 (y_move rfl) rfl rfl rfl ?_; intro a474 hE475; clear hE473
                    refine q_step (v := .int .i64 1) hE475 (y_move rfl) rfl rfl rfl ?_; intro a476 hE477; clear hE475
                    refine l_step hE477 rfl (l_call (f := 45) (argv := [.slice b104 (((F_ClustersOf fp0 fp1).1).length) c105, .int .i64 1]) hE477 (fun _ => cf_l_heldInt64S _ _) rfl rfl (c_l_heldInt64S b104 (((F_ClustersOf fp0 fp1).1).length) c105 (marked ((F_ClustersOf fp0 fp1).1).length 1) 1 w467 (St.rdO (i := 2) hS469 rfl) (by first | omega | (simp only [marked_len]; omega)) (by first | omega | (simp only [marked_len]; omega)) (by first | omega | (simp only [marked_len]; omega))) ?_)
                    rintro _ w479 ⟨rfl, he483⟩ a480 hE481; clear hE477
                    have hS482 := St.go hS469 he483; clear hS469
                    refine q_step (v := .int .i64 (F_l_heldInt64S (marked ((F_ClustersOf fp0 fp1).1).length 1) 1)) hE481 (y_assign rfl) rfl rfl rfl ?_; intro a484 hE485; clear hE481
                    refine c_nil ?_
                    have hE486 := hE485.sub (L' := [(10, .int .i64 (1 + (((F_ClustersOf fp0 fp1).1).length : Int))), (11, .int .i64 (F_l_heldInt64S (marked ((F_ClustersOf fp0 fp1).1).length 1) 1))]) ⟨rfl, rfl, trivial⟩; clear hE485
                    refine p_tn ?_
                    refine c_seq ?_
                    refine c_seq ?_
                    refine c_reg ?_
                    refine q_step (v := .int .i64 (F_l_heldInt64S (marked ((F_ClustersOf fp0 fp1).1).length 1) 1)) hE486 (y_move rfl) rfl rfl rfl ?_; intro a487 hE488; clear hE486
                    refine q_step (v := .bool (decide ((F_l_heldInt64S (marked ((F_ClustersOf fp0 fp1).1).length 1) 1) < 0))) hE488 (y_lss rfl rfl) rfl rfl rfl ?_; intro a489 hE490; clear hE488
                    refine c_nil ?_
                    have hE491 := hE490.sub (L' := [(10, .int .i64 (1 + (((F_ClustersOf fp0 fp1).1).length : Int))), (11, .int .i64 (F_l_heldInt64S (marked ((F_ClustersOf fp0 fp1).1).length 1) 1)), (92, .bool (decide ((F_l_heldInt64S (marked ((F_ClustersOf fp0 fp1).1).length 1) 1) < 0)))]) ⟨rfl, rfl, rfl, trivial⟩; clear hE490
                    refine p_tn ?_
                    have hE492 := hE491; rw [ht366] at hE492; clear hE491
                    refine c_false hE492 rfl ?_
                    refine wp_skip ?_
                    refine p_tn ?_
                    refine c_seq ?_
                    refine c_seq ?_
                    refine c_reg ?_
                    refine q_step (v := .int .i64 (F_l_heldInt64S (marked ((F_ClustersOf fp0 fp1).1).length 1) 1)) hE492 (y_move rfl) rfl rfl rfl ?_; intro a493 hE494; clear hE492
                    refine q_step (v := .int .i64 (1 + (((F_ClustersOf fp0 fp1).1).length : Int))) hE494 (y_move rfl) rfl rfl rfl ?_; intro a495 hE496; clear hE494
                    refine q_step (v := .bool (!decide ((F_l_heldInt64S (marked ((F_ClustersOf fp0 fp1).1).length 1) 1) = (1 + (((F_ClustersOf fp0 fp1).1).length : Int))))) hE496 (y_neq rfl rfl) rfl rfl rfl ?_; intro a497 hE498; clear hE496
                    refine c_nil ?_
                    have hE499 := hE498.sub (L' := [(95, .bool (!decide ((F_l_heldInt64S (marked ((F_ClustersOf fp0 fp1).1).length 1) 1) = (1 + (((F_ClustersOf fp0 fp1).1).length : Int)))))]) ⟨rfl, trivial⟩; clear hE498
                    refine p_tn ?_
                    have hE500 := hE499; rw [ht381] at hE500; clear hE499
                    refine c_false hE500 rfl ?_
                    refine wp_skip ?_
                    refine p_tn ?_
                    refine c_seq ?_
                    refine c_reg ?_
                    refine q_step (v := .bool true) hE500 (y_assign rfl) rfl rfl rfl ?_; intro a501 hE502; clear hE500
                    refine c_nil ?_
                    have hE503 := hE502.sub (L' := [(2, .bool true)]) ⟨rfl, trivial⟩; clear hE502
                    refine p_tn ?_
                    refine wp_ret ?_
                    have hF : F_l_FnExactClustersOf fp0 fp1 = true := by unfold F_l_FnExactClustersOf; rw [ht381, ht366, ht313, ht203, ht166, ht32]; first | done | rfl
                    refine c_ret1 hE503 rfl rfl ?_
                    exact ⟨(by rw [hF]; first | done | rfl), hS482.ext⟩

theorem FnExactClustersOf_true (fp0 : Int) (fp1 : List Int) : F_l_FnExactClustersOf fp0 fp1 = true := by
  unfold F_l_FnExactClustersOf
  rw [ClustersOf_eq, heldI_eq]
  have h1 : decide (1 + (fp1.length : Int) < 0) = false := decide_eq_false (by omega)
  have h2 : decide ((1 : Int) + ((F_s_ClustersOf fp0 fp1).1.length : Int) < 0) = false := decide_eq_false (by omega)
  simp [h1, h2]

end Go.Proofs.Ytejfjcjdilbkdaa
