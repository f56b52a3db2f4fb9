/- GLAC: models and contracts, printed by wip/gen/gen.py -/
import Derived.Test.YtlbonhloeefnmaaKACGAM2
set_option linter.unusedVariables false
set_option linter.unusedSimpArgs false
namespace Go.Proofs.Ytlbonhloeefnmaa
open Go.RowKit
def F_l_FnExactAllCongruences (fp0 : Int) (fp1 : List Int) : Bool :=
  bif (decide ((F_l_szFrame fp0 fp1 1048576) < 0)) then true else (bif ((!(decide (((F_AllCongruences fp0 fp1).1) = ((F_s_AllCongruences fp0 fp1).1)))) || (!decide (((F_AllCongruences fp0 fp1).2) = ((F_s_AllCongruences fp0 fp1).2)))) then false else (bif (!(decide ((fp0, fp1) = (fp0, fp1)))) then false else (bif ((decide ((1 + (fp1.length : Int)) < 0)) || ((!(decide (((F_AllCongruences fp0 fp1).1) = ((F_s_AllCongruences fp0 fp1).1)))) || (!decide (((F_AllCongruences fp0 fp1).2) = ((F_s_AllCongruences fp0 fp1).2))))) then false else (bif (decide ((F_l_heldInt64SS (markedL ((F_AllCongruences fp0 fp1).1) 1) 1) < 0)) then false else (bif (!decide ((F_l_heldInt64SS (markedL ((F_AllCongruences fp0 fp1).1) 1) 1) = (1 + (totL ((F_AllCongruences fp0 fp1).1) : Int)))) then false else true)))))
set_option maxRecDepth 100000 in
theorem c_l_FnExactAllCongruences (fp0 : Int) (fp1A : Option Addr) (fp1N fp1C : Nat) (fp1 : List Int) (w : World) (fp1R : RdS w 1 fp1A fp1N fp1C fp1) :
    Calls Try.prog 10 #[.agg #[.int .i64 fp0, .slice fp1A fp1N fp1C]] w (Ret fun v w' => v = .bool (F_l_FnExactAllCongruences fp0 fp1) ∧ Ext w w') := by
  obtain rfl : fp1N = fp1.length := fp1R.len1.symm
  have fp1Le := fp1R.le
  have hS := St.nil w
  have hS1 := St.rd0 hS rfl fp1R; clear hS
  refine enter (args := [.agg #[.int .i64 fp0, .slice fp1A fp1.length fp1C]]) Try.func10 rfl rfl ?_
  rw [Try.ntmps10]; intro a hE
  have hE := hE.sub (L' := [(0, .agg #[.int .i64 fp0, .slice fp1A fp1.length fp1C])]) ⟨rfl, trivial⟩
  refine c_seq ?_
  refine c_reg ?_
  refine l_step hE rfl (l_box (v := .agg #[.int .i64 fp0, .slice fp1A fp1.length fp1C]) (cs := #[.int .i64 fp0, .slice fp1A fp1.length fp1C]) hS1 hE rfl rfl rfl ?_)
  intro b2 w3 hS6 he7 a4 hE5; clear hS1 hE
  refine q_step (v := .bool false) hE5 (y_assign rfl) rfl rfl rfl ?_; intro a8 hE9; clear hE5
  refine c_nil ?_
  have hE10 := hE9.sub (L' := [(1, .pointer (some ⟨b2, 0, none⟩))]) ⟨rfl, trivial⟩; clear hE9
  refine p_tn ?_
  refine c_seq ?_
  refine c_reg ?_
  refine q_step (v := .int .i64 1048576) hE10 (y_assign rfl) rfl rfl rfl ?_; intro a11 hE12; clear hE10
  refine c_nil ?_
  have hE13 := hE12.sub (L' := [(1, .pointer (some ⟨b2, 0, none⟩)), (3, .int .i64 1048576)]) ⟨rfl, rfl, trivial⟩; clear hE12
  refine p_tn ?_
  refine c_seq ?_
  refine c_reg ?_
  refine q_step (v := .agg #[.int .i64 fp0, .slice fp1A fp1.length fp1C]) hE13 (y_loadS Try.underlying24 rfl (by kernel_rfl) rfl (St.row (i := 0) hS6 rfl)) rfl rfl rfl ?_; intro a14 hE15; clear hE13
  refine q_step (v := .int .i64 1048576) hE15 (y_move rfl) rfl rfl rfl ?_; intro a16 hE17; clear hE15
  refine l_step hE17 rfl (l_call (f := 28) (argv := [.agg #[.int .i64 fp0, .slice fp1A fp1.length fp1C], .int .i64 1048576]) hE17 (fun _ => cf_l_szFrame _ _) rfl rfl (c_l_szFrame fp0 fp1A fp1.length fp1C fp1 1048576 w3 (St.rdR (i := 1) hS6 rfl) (by first | omega | (simp only [marked_len]; omega) | (simp only [marked_len] at *; omega)) (by first | omega | (simp only [marked_len]; omega) | (simp only [marked_len] at *; omega))) ?_)
  rintro _ w19 ⟨rfl, he23⟩ a20 hE21; clear hE17
  have hS22 := St.go hS6 he23; clear hS6
  refine q_step (v := .int .i64 (F_l_szFrame fp0 fp1 1048576)) hE21 (y_assign rfl) rfl rfl rfl ?_; intro a24 hE25; clear hE21
  refine c_nil ?_
  have hE26 := hE25.sub (L' := [(1, .pointer (some ⟨b2, 0, none⟩)), (3, .int .i64 (F_l_szFrame fp0 fp1 1048576))]) ⟨rfl, rfl, trivial⟩; clear hE25
  refine p_tn ?_
  refine c_seq ?_
  refine c_seq ?_
  refine c_reg ?_
  refine q_step (v := .int .i64 (F_l_szFrame fp0 fp1 1048576)) hE26 (y_move rfl) rfl rfl rfl ?_; intro a27 hE28; clear hE26
  refine q_step (v := .bool (decide ((F_l_szFrame fp0 fp1 1048576) < 0))) hE28 (y_lss rfl rfl) rfl rfl rfl ?_; intro a29 hE30; clear hE28
  refine c_nil ?_
  have hE31 := hE30.sub (L' := [(1, .pointer (some ⟨b2, 0, none⟩)), (18, .bool (decide ((F_l_szFrame fp0 fp1 1048576) < 0)))]) ⟨rfl, rfl, trivial⟩; clear hE30
  refine p_tn ?_
  refine c_cond hE31 rfl (fun ht32 => ?_) (fun ht32 => ?_)
  ·
   have hp33 := of_decide_eq_true ht32
   have hE34 := hE31; rw [ht32] at hE34; clear hE31
   refine c_seq ?_
   refine c_reg ?_
   refine q_step (v := .bool true) hE34 (y_assign rfl) rfl rfl rfl ?_; intro a35 hE36; clear hE34
   refine c_nil ?_
   have hE37 := hE36.sub (L' := [(2, .bool true)]) ⟨rfl, trivial⟩; clear hE36
   refine p_tn ?_
   refine wp_ret ?_
   refine p_tr ?_
   have hF : F_l_FnExactAllCongruences fp0 fp1 = true := by unfold F_l_FnExactAllCongruences; rw [ht32]; first | done | rfl
   refine c_ret1 hE37 rfl rfl ?_
   exact ⟨(by rw [hF]; first | done | (dsimp only; done) | rfl), hS22.ext⟩
  ·
   have hp38 := of_decide_eq_false ht32
   have hq39 := szFrame_bound hp38
   have hE40 := hE31; rw [ht32] at hE40; clear hE31
   refine wp_skip ?_
   refine p_tn ?_
   refine c_seq ?_
   refine c_reg ?_
   refine q_step (v := .agg #[.int .i64 fp0, .slice fp1A fp1.length fp1C]) hE40 (y_loadS Try.underlying24 rfl (by kernel_rfl) rfl (St.row (i := 0) hS22 rfl)) rfl rfl rfl ?_; intro a41 hE42; clear hE40
   refine l_step hE42 rfl (l_call (f := 30) (argv := [.agg #[.int .i64 fp0, .slice fp1A fp1.length fp1C]]) hE42 (fun _ => cf_l_toFrame _ _) rfl rfl (d_l_toFrame fp0 fp1A fp1.length fp1C fp1 w19 (St.rdR (i := 1) hS22 rfl) (by first | omega | (simp only [marked_len]; omega) | (simp only [marked_len] at *; omega))) ?_)
   rintro _ w44 ⟨b49, c50, rfl, ho51, he48⟩ a45 hE46; clear hE42
   have hS47 := St.own hS22 he48 ho51; clear hS22
   refine l_step hE46 rfl (l_call (f := 44) (argv := [.agg #[.int .i64 fp0, .slice b49 ((fp1).length) c50]]) hE46 (fun _ => cf_s_AllCongruences _ _) rfl rfl (c_s_AllCongruences fp0 b49 ((fp1).length) c50 fp1 w44 (St.rdO (i := 0) hS47 rfl)) ?_)
   rintro _ w53 ⟨b58, c59, h60, rfl, hf62, ho61⟩ a54 hE55; clear hE46
   have he57 := ho61.ext
   have hf63 := FrH.mono hf62 (hS47.ext.size)
   have hS56 := St.compF hS47 ho61 hf62; clear hS47
   refine q_step (v := .tuple #[.slice b58 (((F_s_AllCongruences fp0 fp1).1).length) c59, .int .i64 ((F_s_AllCongruences fp0 fp1).2)]) hE55 (y_move rfl) rfl rfl rfl ?_; intro a64 hE65; clear hE55
   refine q_step (v := .slice b58 (((F_s_AllCongruences fp0 fp1).1).length) c59) hE65 (y_extract rfl rfl) rfl rfl rfl ?_; intro a66 hE67; clear hE65
   refine q_step (v := .int .i64 ((F_s_AllCongruences fp0 fp1).2)) hE67 (y_extract rfl rfl) rfl rfl rfl ?_; intro a68 hE69; clear hE67
   refine q_step (v := .slice b58 (((F_s_AllCongruences fp0 fp1).1).length) c59) hE69 (y_assign rfl) rfl rfl rfl ?_; intro a70 hE71; clear hE69
   refine q_step (v := .int .i64 ((F_s_AllCongruences fp0 fp1).2)) hE71 (y_assign rfl) rfl rfl rfl ?_; intro a72 hE73; clear hE71
   refine c_nil ?_
   have hE74 := hE73.sub (L' := [(1, .pointer (some ⟨b2, 0, none⟩)), (4, .slice b58 (((F_s_AllCongruences fp0 fp1).1).length) c59), (5, .int .i64 ((F_s_AllCongruences fp0 fp1).2))]) ⟨rfl, rfl, rfl, trivial⟩; clear hE73
   refine p_tn ?_
   refine c_seq ?_
   refine c_reg ?_
   refine q_step (v := .agg #[.int .i64 fp0, .slice fp1A fp1.length fp1C]) hE74 (y_loadS Try.underlying24 rfl (by kernel_rfl) rfl (St.row (i := 2) hS56 rfl)) rfl rfl rfl ?_; intro a75 hE76; clear hE74
   refine l_step hE76 rfl (l_call (f := 30) (argv := [.agg #[.int .i64 fp0, .slice fp1A fp1.length fp1C]]) hE76 (fun _ => cf_l_toFrame _ _) rfl rfl (d_l_toFrame fp0 fp1A fp1.length fp1C fp1 w53 (St.rdR (i := 3) hS56 rfl) (by first | omega | (simp only [marked_len]; omega) | (simp only [marked_len] at *; omega))) ?_)
   rintro _ w78 ⟨b83, c84, rfl, ho85, he82⟩ a79 hE80; clear hE76
   have hS81 := St.own hS56 he82 ho85; clear hS56
   refine l_step hE80 rfl (l_alloc (z := .agg #[.int .i64 0, .slice none 0 0]) (cs := #[.int .i64 0, .slice none 0 0]) hS81 hE80 (fun _ => by kernel_rfl) rfl rfl ?_)
   intro b86 w87 hS90 he91 a88 hE89; clear hS81 hE80
   refine l_step hE89 rfl (l_storeS (k := 0) (cs' := #[.int .i64 fp0, .slice b83 ((fp1).length) c84]) hS90 hE89 (by kernel_rfl) rfl rfl (by kernel_rfl) rfl rfl ?_)
   intro w93 hS96 a94 hE95; clear hS90 hE89
   refine c_nil ?_
   have hE98 := hE95.sub (L' := [(1, .pointer (some ⟨b2, 0, none⟩)), (4, .slice b58 (((F_s_AllCongruences fp0 fp1).1).length) c59), (5, .int .i64 ((F_s_AllCongruences fp0 fp1).2)), (6, .pointer (some ⟨b86, 0, none⟩))]) ⟨rfl, rfl, rfl, rfl, trivial⟩; clear hE95
   refine p_tn ?_
   refine c_seq ?_
   refine c_reg ?_
   refine q_step (v := .agg #[.int .i64 fp0, .slice b83 ((fp1).length) c84]) hE98 (y_loadS Try.underlying30 rfl (by kernel_rfl) rfl (St.row (i := 0) hS96 rfl)) rfl rfl rfl ?_; intro a99 hE100; clear hE98
   refine l_step hE100 rfl (l_call (f := 45) (argv := [.agg #[.int .i64 fp0, .slice b83 ((fp1).length) c84]]) hE100 (fun _ => cf_AllCongruences _ _) rfl rfl (c_AllCongruences fp0 b83 ((fp1).length) c84 fp1 w93 (St.rdO (i := 1) hS96 rfl)) ?_)
   rintro _ w102 ⟨b107, c108, h109, rfl, ho110, he106⟩ a103 hE104; clear hE100
   have hf111 := AllCongruences_tot fp0 fp1
   have hS105 := St.ownN hS96 he106 ho110; clear hS96
   refine q_step (v := .tuple #[.slice b107 (((F_AllCongruences fp0 fp1).1).length) c108, .int .i64 ((F_AllCongruences fp0 fp1).2)]) hE104 (y_move rfl) rfl rfl rfl ?_; intro a112 hE113; clear hE104
   refine q_step (v := .slice b107 (((F_AllCongruences fp0 fp1).1).length) c108) hE113 (y_extract rfl rfl) rfl rfl rfl ?_; intro a114 hE115; clear hE113
   refine q_step (v := .int .i64 ((F_AllCongruences fp0 fp1).2)) hE115 (y_extract rfl rfl) rfl rfl rfl ?_; intro a116 hE117; clear hE115
   refine q_step (v := .slice b107 (((F_AllCongruences fp0 fp1).1).length) c108) hE117 (y_assign rfl) rfl rfl rfl ?_; intro a118 hE119; clear hE117
   refine q_step (v := .int .i64 ((F_AllCongruences fp0 fp1).2)) hE119 (y_assign rfl) rfl rfl rfl ?_; intro a120 hE121; clear hE119
   refine c_nil ?_
   have hE122 := hE121.sub (L' := [(1, .pointer (some ⟨b2, 0, none⟩)), (4, .slice b58 (((F_s_AllCongruences fp0 fp1).1).length) c59), (5, .int .i64 ((F_s_AllCongruences fp0 fp1).2)), (6, .pointer (some ⟨b86, 0, none⟩)), (7, .slice b107 (((F_AllCongruences fp0 fp1).1).length) c108), (8, .int .i64 ((F_AllCongruences fp0 fp1).2))]) ⟨rfl, rfl, rfl, rfl, rfl, rfl, trivial⟩; clear hE121
   refine p_tn ?_
   refine c_seq ?_
   refine c_cut (fun a' w' => E a' 96 [(1, .pointer (some ⟨b2, 0, none⟩)), (4, .slice b58 (((F_s_AllCongruences fp0 fp1).1).length) c59), (5, .int .i64 ((F_s_AllCongruences fp0 fp1).2)), (6, .pointer (some ⟨b86, 0, none⟩)), (7, .slice b107 (((F_AllCongruences fp0 fp1).1).length) c108), (8, .int .i64 ((F_AllCongruences fp0 fp1).2)), (40, .bool ((!(decide (((F_AllCongruences fp0 fp1).1) = ((F_s_AllCongruences fp0 fp1).1)))) || (!decide (((F_AllCongruences fp0 fp1).2) = ((F_s_AllCongruences fp0 fp1).2)))))] ∧ St w w' [.nest 22 1 (some 2) b107 c108 h109 ((F_AllCongruences fp0 fp1).1), .own 2 1 b83 ((fp1).length) c84 fp1, .blk b86 #[.int .i64 fp0, .slice b83 ((fp1).length) c84] 30, .nest 22 1 none b58 c59 h60 ((F_s_AllCongruences fp0 fp1).1), .own 2 1 b49 ((fp1).length) c50 fp1, .rd 1 fp1A fp1.length fp1C fp1, .blk b2 #[.int .i64 fp0, .slice fp1A fp1.length fp1C] 24]) ?_ ?_
   ·
    refine c_reg ?_
    refine q_step (v := .slice b107 (((F_AllCongruences fp0 fp1).1).length) c108) hE122 (y_move rfl) rfl rfl rfl ?_; intro a123 hE124; clear hE122
    refine q_step (v := .slice b58 (((F_s_AllCongruences fp0 fp1).1).length) c59) hE124 (y_move rfl) rfl rfl rfl ?_; intro a125 hE126; clear hE124
    refine l_step hE126 rfl (l_call (f := 46) (argv := [.slice b107 (((F_AllCongruences fp0 fp1).1).length) c108, .slice b58 (((F_s_AllCongruences fp0 fp1).1).length) c59]) hE126 (fun _ => cf_l_eqInt64SS _ _) rfl rfl (d_l_eqInt64SS b107 (((F_AllCongruences fp0 fp1).1).length) c108 h109 ((F_AllCongruences fp0 fp1).1) b58 (((F_s_AllCongruences fp0 fp1).1).length) c59 h60 ((F_s_AllCongruences fp0 fp1).1) w102 (St.rdNo (i := 0) hS105 rfl) (St.rdNo (i := 3) hS105 rfl)) ?_)
    rintro _ w128 ⟨rfl, he132⟩ a129 hE130; clear hE126
    have hS131 := St.go hS105 he132; clear hS105
    refine q_step (v := .bool (!(decide (((F_AllCongruences fp0 fp1).1) = ((F_s_AllCongruences fp0 fp1).1))))) hE130 (y_not rfl) rfl rfl rfl ?_; intro a133 hE134; clear hE130
    refine q_step (v := .bool (!(decide (((F_AllCongruences fp0 fp1).1) = ((F_s_AllCongruences fp0 fp1).1))))) hE134 (y_move rfl) rfl rfl rfl ?_; intro a135 hE136; clear hE134
    rcases Bool.eq_false_or_eq_true (!(decide (((F_AllCongruences fp0 fp1).1) = ((F_s_AllCongruences fp0 fp1).1)))) with hb137 | hb137
    ·
     have hE138 := hE136; (try rw [hb137] at hE138); clear hE136
     have ht139 := bn_t hb137
     have hp140 := of_decide_eq_false ht139
     refine q_skip hE138 rfl rfl rfl ?_; intro a141 hE142; clear hE138
     refine q_skip hE142 rfl rfl rfl ?_; intro a143 hE144; clear hE142
     refine q_skip hE144 rfl rfl rfl ?_; intro a145 hE146; clear hE144
     refine q_step (v := .bool true) hE146 (y_pick (b := true) rfl rfl) rfl rfl rfl ?_; intro a147 hE148; clear hE146
     refine c_nil ?_
     have hE149 := hE148.sub (L' := [(1, .pointer (some ⟨b2, 0, none⟩)), (4, .slice b58 (((F_s_AllCongruences fp0 fp1).1).length) c59), (5, .int .i64 ((F_s_AllCongruences fp0 fp1).2)), (6, .pointer (some ⟨b86, 0, none⟩)), (7, .slice b107 (((F_AllCongruences fp0 fp1).1).length) c108), (8, .int .i64 ((F_AllCongruences fp0 fp1).2)), (40, .bool true)]) ⟨rfl, rfl, rfl, rfl, rfl, rfl, rfl, trivial⟩; clear hE148
     refine p_tn ?_
     have hE150 := hE149.sub (L' := [(1, .pointer (some ⟨b2, 0, none⟩)), (4, .slice b58 (((F_s_AllCongruences fp0 fp1).1).length) c59), (5, .int .i64 ((F_s_AllCongruences fp0 fp1).2)), (6, .pointer (some ⟨b86, 0, none⟩)), (7, .slice b107 (((F_AllCongruences fp0 fp1).1).length) c108), (8, .int .i64 ((F_AllCongruences fp0 fp1).2)), (40, .bool true)]) ⟨rfl, rfl, rfl, rfl, rfl, rfl, rfl, trivial⟩
     have hS151 := (St.pick (Γ' := [.nest 22 1 (some 2) b107 c108 h109 ((F_AllCongruences fp0 fp1).1), .own 2 1 b83 ((fp1).length) c84 fp1, .blk b86 #[.int .i64 fp0, .slice b83 ((fp1).length) c84] 30, .nest 22 1 none b58 c59 h60 ((F_s_AllCongruences fp0 fp1).1), .own 2 1 b49 ((fp1).length) c50 fp1, .rd 1 fp1A fp1.length fp1C fp1, .blk b2 #[.int .i64 fp0, .slice fp1A fp1.length fp1C] 24]) hS131 [0, 2, 1, 3, 4, 6, 5] (by decide) rfl)
     exact ⟨(by rw [hb137]; exact hE150), hS151⟩
    ·
     have hE152 := hE136; (try rw [hb137] at hE152); clear hE136
     have ht153 := bn_f hb137
     have hp154 := of_decide_eq_true ht153
     refine q_step (v := .int .i64 ((F_AllCongruences fp0 fp1).2)) hE152 (y_move rfl) rfl rfl rfl ?_; intro a155 hE156; clear hE152
     refine q_step (v := .int .i64 ((F_s_AllCongruences fp0 fp1).2)) hE156 (y_move rfl) rfl rfl rfl ?_; intro a157 hE158; clear hE156
     refine q_step (v := .bool (!decide (((F_AllCongruences fp0 fp1).2) = ((F_s_AllCongruences fp0 fp1).2)))) hE158 (y_neq rfl rfl) rfl rfl rfl ?_; intro a159 hE160; clear hE158
     refine q_step (v := .bool (!decide (((F_AllCongruences fp0 fp1).2) = ((F_s_AllCongruences fp0 fp1).2)))) hE160 (y_pick (b := false) rfl rfl) rfl rfl rfl ?_; intro a161 hE162; clear hE160
     refine c_nil ?_
     have hE163 := hE162.sub (L' := [(1, .pointer (some ⟨b2, 0, none⟩)), (4, .slice b58 (((F_s_AllCongruences fp0 fp1).1).length) c59), (5, .int .i64 ((F_s_AllCongruences fp0 fp1).2)), (6, .pointer (some ⟨b86, 0, none⟩)), (7, .slice b107 (((F_AllCongruences fp0 fp1).1).length) c108), (8, .int .i64 ((F_AllCongruences fp0 fp1).2)), (40, .bool (!decide (((F_AllCongruences fp0 fp1).2) = ((F_s_AllCongruences fp0 fp1).2))))]) ⟨rfl, rfl, rfl, rfl, rfl, rfl, rfl, trivial⟩; clear hE162
     refine p_tn ?_
     have hE164 := hE163.sub (L' := [(1, .pointer (some ⟨b2, 0, none⟩)), (4, .slice b58 (((F_s_AllCongruences fp0 fp1).1).length) c59), (5, .int .i64 ((F_s_AllCongruences fp0 fp1).2)), (6, .pointer (some ⟨b86, 0, none⟩)), (7, .slice b107 (((F_AllCongruences fp0 fp1).1).length) c108), (8, .int .i64 ((F_AllCongruences fp0 fp1).2)), (40, .bool (!decide (((F_AllCongruences fp0 fp1).2) = ((F_s_AllCongruences fp0 fp1).2))))]) ⟨rfl, rfl, rfl, rfl, rfl, rfl, rfl, trivial⟩
     have hS165 := (St.pick (Γ' := [.nest 22 1 (some 2) b107 c108 h109 ((F_AllCongruences fp0 fp1).1), .own 2 1 b83 ((fp1).length) c84 fp1, .blk b86 #[.int .i64 fp0, .slice b83 ((fp1).length) c84] 30, .nest 22 1 none b58 c59 h60 ((F_s_AllCongruences fp0 fp1).1), .own 2 1 b49 ((fp1).length) c50 fp1, .rd 1 fp1A fp1.length fp1C fp1, .blk b2 #[.int .i64 fp0, .slice fp1A fp1.length fp1C] 24]) hS131 [0, 2, 1, 3, 4, 6, 5] (by decide) rfl)
     exact ⟨(by rw [hb137]; exact hE164), hS165⟩
   ·
    rintro a166 w167 ⟨hE168, hS169⟩; clear hE122 hS105
    refine c_cond hE168 rfl (fun ht171 => ?_) (fun ht171 => ?_)
    ·
     have hE172 := hE168; rw [ht171] at hE172; clear hE168
     refine c_seq ?_
     refine c_reg ?_
     refine q_step (v := .bool false) hE172 (y_assign rfl) rfl rfl rfl ?_; intro a173 hE174; clear hE172
     refine c_nil ?_
     have hE175 := hE174.sub (L' := [(2, .bool false)]) ⟨rfl, trivial⟩; clear hE174
     refine p_tn ?_
     refine wp_ret ?_
     refine p_tr ?_
     have hF : F_l_FnExactAllCongruences fp0 fp1 = false := by unfold F_l_FnExactAllCongruences; rw [ht171, ht32]; first | done | rfl
     refine c_ret1 hE175 rfl rfl ?_
     exact ⟨(by rw [hF]; first | done | (dsimp only; done) | rfl), hS169.ext⟩
    ·
     obtain ⟨ht176, ht177⟩ := bor_f ht171
     have ht178 := bn_f ht176
     have hp179 := of_decide_eq_true ht178
     have ht180 := bn_f ht177
     have hp181 := of_decide_eq_true ht180
     have hE182 := hE168; rw [ht171] at hE182; clear hE168
     refine wp_skip ?_
     refine p_tn ?_
     refine c_seq ?_
     refine c_seq ?_
     refine d_start (fun w w' => (fun w' => w'.heap[b86]? = some (.cells #[.int .i64 fp0, .slice b83 ((fp1).length) c84] 30 (0, 0)) ∧ w'.heap[b2]? = some (.cells #[.int .i64 fp0, .slice fp1A fp1.length fp1C] 24 (0, 0)) ∧ True) w → (fun w' => w'.heap[b86]? = some (.cells #[.int .i64 fp0, .slice b83 ((fp1).length) c84] 30 (0, 0)) ∧ w'.heap[b2]? = some (.cells #[.int .i64 fp0, .slice fp1A fp1.length fp1C] 24 (0, 0)) ∧ True) w') [0, 1] 5 (by kernel_rfl) rfl ?_
     intro w183 he184; have hS185 := St.go hS169 he184; clear hS169
     refine d_take (fun _ h => h) (fun _ _ h k => h k) (v := .agg #[.int .i64 fp0, .slice b83 ((fp1).length) c84]) 0 rfl hE182 (S := fun w' => w'.heap[b86]? = some (.cells #[.int .i64 fp0, .slice b83 ((fp1).length) c84] 30 (0, 0)) ∧ w'.heap[b2]? = some (.cells #[.int .i64 fp0, .slice fp1A fp1.length fp1C] 24 (0, 0)) ∧ True) ⟨(St.row (i := 2) hS185 rfl _ (Ext.refl _)), (St.row (i := 6) hS185 rfl _ (Ext.refl _)), trivial⟩ (y_loadS Try.underlying30 rfl (by kernel_rfl) rfl (fun _ h => h.1)) rfl rfl (by kernel_rfl) (by kernel_rfl) (by kernel_rfl) (by kernel_rfl) rfl rfl (fun _ _ _ h => h) ?_; intro a186 hE187; clear hE182
     refine d_take (fun _ h => h) (fun _ _ h k => h k) (v := .agg #[.int .i64 fp0, .slice fp1A fp1.length fp1C]) 1 rfl hE187 (S := fun w' => w'.heap[b86]? = some (.cells #[.int .i64 fp0, .slice b83 ((fp1).length) c84] 30 (0, 0)) ∧ w'.heap[b2]? = some (.cells #[.int .i64 fp0, .slice fp1A fp1.length fp1C] 24 (0, 0)) ∧ True) ⟨(St.row (i := 2) hS185 rfl _ (Ext.refl _)), (St.row (i := 6) hS185 rfl _ (Ext.refl _)), trivial⟩ (y_loadS Try.underlying24 rfl (by kernel_rfl) rfl (fun _ h => h.2.1)) rfl rfl (by kernel_rfl) (by kernel_rfl) (by kernel_rfl) (by kernel_rfl) rfl rfl (fun _ _ _ h => h) ?_; intro a188 hE189; clear hE187
     refine d_only 2 (by kernel_rfl) rfl hE189 rfl (l_call (f := 30) (argv := [.agg #[.int .i64 fp0, .slice fp1A fp1.length fp1C]]) hE189 (fun _ => cf_l_toFrame _ _) rfl rfl (d_l_toFrame fp0 fp1A fp1.length fp1C fp1 w183 (St.rdR (i := 5) hS185 rfl) (by first | omega | (simp only [marked_len]; omega) | (simp only [marked_len] at *; omega))) ?_)
     rintro _ w191 ⟨b196, c197, rfl, ho198, he195⟩ a192 hE193; clear hE189
     have hS194 := St.own hS185 he195 ho198; clear hS185
     refine ⟨fun _ _ => ⟨(St.row (i := 3) hS194 rfl _ (Ext.refl _)), (St.row (i := 7) hS194 rfl _ (Ext.refl _)), trivial⟩, ?_⟩
     refine d_only 3 (by kernel_rfl) rfl hE193 rfl (l_call (f := 32) (argv := [.agg #[.int .i64 fp0, .slice b83 ((fp1).length) c84], .agg #[.int .i64 fp0, .slice b196 ((fp1).length) c197]]) hE193 (fun _ => cf_l_eqFrame _ _) rfl rfl (d_l_eqFrame fp0 b83 ((fp1).length) c84 fp1 fp0 b196 ((fp1).length) c197 fp1 w191 (St.rdO (i := 2) hS194 rfl) (St.rdO (i := 0) hS194 rfl)) ?_)
     rintro _ w200 ⟨rfl, he204⟩ a201 hE202; clear hE193
     have hS203 := St.go hS194 he204; clear hS194
     refine ⟨fun h => Bool.noConfusion (h.symm.trans (show exm _ _ _ = true by kernel_rfl)), ?_⟩
     refine d_pure (fun _ h => h) (v := .bool (!(decide ((fp0, fp1) = (fp0, fp1))))) 4 rfl hE202 (y_not rfl) rfl (by kernel_rfl) (by kernel_rfl) (by kernel_rfl) rfl rfl (fun _ _ _ h => h) ?_; intro a205 hE206; clear hE202
     refine d_done (by kernel_rfl) ?_
     have hE207 := hE206.sub (L' := [(1, .pointer (some ⟨b2, 0, none⟩)), (4, .slice b58 (((F_s_AllCongruences fp0 fp1).1).length) c59), (5, .int .i64 ((F_s_AllCongruences fp0 fp1).2)), (6, .pointer (some ⟨b86, 0, none⟩)), (7, .slice b107 (((F_AllCongruences fp0 fp1).1).length) c108), (8, .int .i64 ((F_AllCongruences fp0 fp1).2)), (45, .bool (!(decide ((fp0, fp1) = (fp0, fp1)))))]) ⟨rfl, rfl, rfl, rfl, rfl, rfl, rfl, trivial⟩; clear hE206
     refine p_tn ?_
     refine c_cond hE207 rfl (fun ht208 => ?_) (fun ht208 => ?_)
     ·
      have ht209 := bn_t ht208
      have hp210 := of_decide_eq_false ht209
      have hE211 := hE207; rw [ht208] at hE211; clear hE207
      refine c_seq ?_
      refine c_reg ?_
      refine q_step (v := .bool false) hE211 (y_assign rfl) rfl rfl rfl ?_; intro a212 hE213; clear hE211
      refine c_nil ?_
      have hE214 := hE213.sub (L' := [(2, .bool false)]) ⟨rfl, trivial⟩; clear hE213
      refine p_tn ?_
      refine wp_ret ?_
      refine p_tr ?_
      have hF : F_l_FnExactAllCongruences fp0 fp1 = false := by unfold F_l_FnExactAllCongruences; rw [ht208, ht171, ht32]; first | done | rfl
      refine c_ret1 hE214 rfl rfl ?_
      exact ⟨(by rw [hF]; first | done | (dsimp only; done) | rfl), hS203.ext⟩
     ·
      have ht215 := bn_f ht208
      have hp216 := of_decide_eq_true ht215
      have hE217 := hE207; rw [ht208] at hE217; clear hE207
      refine wp_skip ?_
      refine p_tn ?_
      refine c_seq ?_
      refine c_reg ?_
      refine q_step (v := .int .i64 1) hE217 (y_assign rfl) rfl rfl rfl ?_; intro a218 hE219; clear hE217
      refine c_nil ?_
      have hE220 := hE219.sub (L' := [(1, .pointer (some ⟨b2, 0, none⟩)), (4, .slice b58 (((F_s_AllCongruences fp0 fp1).1).length) c59), (5, .int .i64 ((F_s_AllCongruences fp0 fp1).2)), (6, .pointer (some ⟨b86, 0, none⟩)), (7, .slice b107 (((F_AllCongruences fp0 fp1).1).length) c108), (8, .int .i64 ((F_AllCongruences fp0 fp1).2)), (9, .int .i64 1)]) ⟨rfl, rfl, rfl, rfl, rfl, rfl, rfl, trivial⟩; clear hE219
      refine p_tn ?_
      refine c_seq ?_
      refine c_reg ?_
      refine q_step (v := .agg #[.int .i64 fp0, .slice b83 ((fp1).length) c84]) hE220 (y_loadS Try.underlying30 rfl (by kernel_rfl) rfl (St.row (i := 3) hS203 rfl)) rfl rfl rfl ?_; intro a221 hE222; clear hE220
      refine q_step (v := .int .i64 1) hE222 (y_move rfl) rfl rfl rfl ?_; intro a223 hE224; clear hE222
      have hS231 := (St.pick (Γ' := [.own 2 1 b83 ((fp1).length) c84 fp1, .own 2 1 b196 ((fp1).length) c197 fp1, .nest 22 1 (some 2) b107 c108 h109 ((F_AllCongruences fp0 fp1).1), .blk b86 #[.int .i64 fp0, .slice b83 ((fp1).length) c84] 30, .nest 22 1 none b58 c59 h60 ((F_s_AllCongruences fp0 fp1).1), .own 2 1 b49 ((fp1).length) c50 fp1, .rd 1 fp1A fp1.length fp1C fp1, .blk b2 #[.int .i64 fp0, .slice fp1A fp1.length fp1C] 24]) hS203 [2, 0, 1, 3, 4, 5, 6, 7] (by decide) rfl); clear hS203
      refine l_step hE224 rfl (l_call (f := 33) (argv := [.agg #[.int .i64 fp0, .slice b83 ((fp1).length) c84], .int .i64 1]) hE224 (fun _ => cf_l_markFrame _ _) rfl rfl (d_l_markFrame fp0 b83 ((fp1).length) c84 fp1 1 w200 w [.own 2 1 b196 ((fp1).length) c197 fp1, .nest 22 1 (some 2) b107 c108 h109 ((F_AllCongruences fp0 fp1).1), .blk b86 #[.int .i64 fp0, .slice b83 ((fp1).length) c84] 30, .nest 22 1 none b58 c59 h60 ((F_s_AllCongruences fp0 fp1).1), .own 2 1 b49 ((fp1).length) c50 fp1, .rd 1 fp1A fp1.length fp1C fp1, .blk b2 #[.int .i64 fp0, .slice fp1A fp1.length fp1C] 24] hS231 (by first | omega | (simp only [marked_len]; omega) | (simp only [marked_len] at *; omega)) (by first | omega | (simp only [marked_len]; omega) | (simp only [marked_len] at *; omega)) (by first | omega | (simp only [marked_len]; omega) | (simp only [marked_len] at *; omega))) ?_)
      rintro _ w226 ⟨rfl, hS229⟩ a227 hE228; clear hE224 hS231
      refine q_step (v := .int .i64 (1 + (fp1.length : Int))) hE228 (y_assign rfl) rfl rfl rfl ?_; intro a232 hE233; clear hE228
      refine c_nil ?_
      have hE234 := hE233.sub (L' := [(1, .pointer (some ⟨b2, 0, none⟩)), (4, .slice b58 (((F_s_AllCongruences fp0 fp1).1).length) c59), (5, .int .i64 ((F_s_AllCongruences fp0 fp1).2)), (7, .slice b107 (((F_AllCongruences fp0 fp1).1).length) c108), (8, .int .i64 ((F_AllCongruences fp0 fp1).2)), (9, .int .i64 (1 + (fp1.length : Int)))]) ⟨rfl, rfl, rfl, rfl, rfl, rfl, trivial⟩; clear hE233
      refine p_tn ?_
      refine c_seq ?_
      refine c_cut (fun a' w' => E a' 96 [(1, .pointer (some ⟨b2, 0, none⟩)), (4, .slice b58 (((F_s_AllCongruences fp0 fp1).1).length) c59), (5, .int .i64 ((F_s_AllCongruences fp0 fp1).2)), (7, .slice b107 (((F_AllCongruences fp0 fp1).1).length) c108), (61, .bool ((decide ((1 + (fp1.length : Int)) < 0)) || ((!(decide (((F_AllCongruences fp0 fp1).1) = ((F_s_AllCongruences fp0 fp1).1)))) || (!decide (((F_AllCongruences fp0 fp1).2) = ((F_s_AllCongruences fp0 fp1).2))))))] ∧ St w w' [.own 2 1 b83 ((fp1).length) c84 (marked fp1.length 1), .own 2 1 b196 ((fp1).length) c197 fp1, .nest 22 1 (some 2) b107 c108 h109 ((F_AllCongruences fp0 fp1).1), .blk b86 #[.int .i64 fp0, .slice b83 ((fp1).length) c84] 30, .nest 22 1 none b58 c59 h60 ((F_s_AllCongruences fp0 fp1).1), .own 2 1 b49 ((fp1).length) c50 fp1, .rd 1 fp1A fp1.length fp1C fp1, .blk b2 #[.int .i64 fp0, .slice fp1A fp1.length fp1C] 24]) ?_ ?_
      ·
       refine c_reg ?_
       refine q_step (v := .int .i64 (1 + (fp1.length : Int))) hE234 (y_move rfl) rfl rfl rfl ?_; intro a235 hE236; clear hE234
       refine q_step (v := .bool (decide ((1 + (fp1.length : Int)) < 0))) hE236 (y_lss rfl rfl) rfl rfl rfl ?_; intro a237 hE238; clear hE236
       refine q_step (v := .bool (decide ((1 + (fp1.length : Int)) < 0))) hE238 (y_move rfl) rfl rfl rfl ?_; intro a239 hE240; clear hE238
       rcases Bool.eq_false_or_eq_true (decide ((1 + (fp1.length : Int)) < 0)) with hb241 | hb241
       ·
        have hE242 := hE240; (try rw [hb241] at hE242); clear hE240
        have hp243 := of_decide_eq_true hb241
        refine q_skip hE242 rfl rfl rfl ?_; intro a244 hE245; clear hE242
        refine q_skip hE245 rfl rfl rfl ?_; intro a246 hE247; clear hE245
        refine q_skip hE247 rfl rfl rfl ?_; intro a248 hE249; clear hE247
        refine q_skip hE249 rfl rfl rfl ?_; intro a250 hE251; clear hE249
        refine q_step (v := .bool true) hE251 (y_pick (b := true) rfl rfl) rfl rfl rfl ?_; intro a252 hE253; clear hE251
        refine q_step (v := .bool true) hE253 (y_move rfl) rfl rfl rfl ?_; intro a254 hE255; clear hE253
        refine q_skip hE255 rfl rfl rfl ?_; intro a256 hE257; clear hE255
        refine q_skip hE257 rfl rfl rfl ?_; intro a258 hE259; clear hE257
        refine q_skip hE259 rfl rfl rfl ?_; intro a260 hE261; clear hE259
        refine q_step (v := .bool true) hE261 (y_pick (b := true) rfl rfl) rfl rfl rfl ?_; intro a262 hE263; clear hE261
        refine c_nil ?_
        have hE264 := hE263.sub (L' := [(1, .pointer (some ⟨b2, 0, none⟩)), (4, .slice b58 (((F_s_AllCongruences fp0 fp1).1).length) c59), (5, .int .i64 ((F_s_AllCongruences fp0 fp1).2)), (7, .slice b107 (((F_AllCongruences fp0 fp1).1).length) c108), (61, .bool true)]) ⟨rfl, rfl, rfl, rfl, rfl, trivial⟩; clear hE263
        refine p_tn ?_
        have hE265 := hE264.sub (L' := [(1, .pointer (some ⟨b2, 0, none⟩)), (4, .slice b58 (((F_s_AllCongruences fp0 fp1).1).length) c59), (5, .int .i64 ((F_s_AllCongruences fp0 fp1).2)), (7, .slice b107 (((F_AllCongruences fp0 fp1).1).length) c108), (61, .bool true)]) ⟨rfl, rfl, rfl, rfl, rfl, trivial⟩
        have hS266 := (St.pick (Γ' := [.own 2 1 b83 ((fp1).length) c84 (marked fp1.length 1), .own 2 1 b196 ((fp1).length) c197 fp1, .nest 22 1 (some 2) b107 c108 h109 ((F_AllCongruences fp0 fp1).1), .blk b86 #[.int .i64 fp0, .slice b83 ((fp1).length) c84] 30, .nest 22 1 none b58 c59 h60 ((F_s_AllCongruences fp0 fp1).1), .own 2 1 b49 ((fp1).length) c50 fp1, .rd 1 fp1A fp1.length fp1C fp1, .blk b2 #[.int .i64 fp0, .slice fp1A fp1.length fp1C] 24]) hS229 [0, 1, 2, 3, 4, 5, 6, 7] (by decide) rfl)
        exact ⟨(by rw [hb241]; exact hE265), hS266⟩
       ·
        have hE267 := hE240; (try rw [hb241] at hE267); clear hE240
        have hp268 := of_decide_eq_false hb241
        refine q_step (v := .slice b107 (((F_AllCongruences fp0 fp1).1).length) c108) hE267 (y_move rfl) rfl rfl rfl ?_; intro a269 hE270; clear hE267
        refine q_step (v := .slice b58 (((F_s_AllCongruences fp0 fp1).1).length) c59) hE270 (y_move rfl) rfl rfl rfl ?_; intro a271 hE272; clear hE270
        refine l_step hE272 rfl (l_call (f := 46) (argv := [.slice b107 (((F_AllCongruences fp0 fp1).1).length) c108, .slice b58 (((F_s_AllCongruences fp0 fp1).1).length) c59]) hE272 (fun _ => cf_l_eqInt64SS _ _) rfl rfl (d_l_eqInt64SS b107 (((F_AllCongruences fp0 fp1).1).length) c108 h109 ((F_AllCongruences fp0 fp1).1) b58 (((F_s_AllCongruences fp0 fp1).1).length) c59 h60 ((F_s_AllCongruences fp0 fp1).1) w226 (St.rdNo (i := 2) hS229 rfl) (St.rdNo (i := 4) hS229 rfl)) ?_)
        rintro _ w274 ⟨rfl, he278⟩ a275 hE276; clear hE272
        have hS277 := St.go hS229 he278; clear hS229
        refine q_step (v := .bool (!(decide (((F_AllCongruences fp0 fp1).1) = ((F_s_AllCongruences fp0 fp1).1))))) hE276 (y_not rfl) rfl rfl rfl ?_; intro a279 hE280; clear hE276
        refine q_step (v := .bool (!(decide (((F_AllCongruences fp0 fp1).1) = ((F_s_AllCongruences fp0 fp1).1))))) hE280 (y_pick (b := false) rfl rfl) rfl rfl rfl ?_; intro a281 hE282; clear hE280
        refine q_step (v := .bool (!(decide (((F_AllCongruences fp0 fp1).1) = ((F_s_AllCongruences fp0 fp1).1))))) hE282 (y_move rfl) rfl rfl rfl ?_; intro a283 hE284; clear hE282
        rcases Bool.eq_false_or_eq_true (!(decide (((F_AllCongruences fp0 fp1).1) = ((F_s_AllCongruences fp0 fp1).1)))) with hb285 | hb285
        ·
         have hE286 := hE284; (try rw [hb285] at hE286); clear hE284
         have ht287 := bn_t hb285
         have hp288 := of_decide_eq_false ht287
         refine q_skip hE286 rfl rfl rfl ?_; intro a289 hE290; clear hE286
         refine q_skip hE290 rfl rfl rfl ?_; intro a291 hE292; clear hE290
         refine q_skip hE292 rfl rfl rfl ?_; intro a293 hE294; clear hE292
         refine q_step (v := .bool true) hE294 (y_pick (b := true) rfl rfl) rfl rfl rfl ?_; intro a295 hE296; clear hE294
         refine c_nil ?_
         have hE297 := hE296.sub (L' := [(1, .pointer (some ⟨b2, 0, none⟩)), (4, .slice b58 (((F_s_AllCongruences fp0 fp1).1).length) c59), (5, .int .i64 ((F_s_AllCongruences fp0 fp1).2)), (7, .slice b107 (((F_AllCongruences fp0 fp1).1).length) c108), (61, .bool true)]) ⟨rfl, rfl, rfl, rfl, rfl, trivial⟩; clear hE296
         refine p_tn ?_
         have hE298 := hE297.sub (L' := [(1, .pointer (some ⟨b2, 0, none⟩)), (4, .slice b58 (((F_s_AllCongruences fp0 fp1).1).length) c59), (5, .int .i64 ((F_s_AllCongruences fp0 fp1).2)), (7, .slice b107 (((F_AllCongruences fp0 fp1).1).length) c108), (61, .bool true)]) ⟨rfl, rfl, rfl, rfl, rfl, trivial⟩
         have hS299 := (St.pick (Γ' := [.own 2 1 b83 ((fp1).length) c84 (marked fp1.length 1), .own 2 1 b196 ((fp1).length) c197 fp1, .nest 22 1 (some 2) b107 c108 h109 ((F_AllCongruences fp0 fp1).1), .blk b86 #[.int .i64 fp0, .slice b83 ((fp1).length) c84] 30, .nest 22 1 none b58 c59 h60 ((F_s_AllCongruences fp0 fp1).1), .own 2 1 b49 ((fp1).length) c50 fp1, .rd 1 fp1A fp1.length fp1C fp1, .blk b2 #[.int .i64 fp0, .slice fp1A fp1.length fp1C] 24]) hS277 [0, 1, 2, 3, 4, 5, 6, 7] (by decide) rfl)
         exact ⟨(by rw [hb285, hb241]; exact hE298), hS299⟩
        ·
         have hE300 := hE284; (try rw [hb285] at hE300); clear hE284
         have ht301 := bn_f hb285
         have hp302 := of_decide_eq_true ht301
         refine q_step (v := .int .i64 ((F_AllCongruences fp0 fp1).2)) hE300 (y_move rfl) rfl rfl rfl ?_; intro a303 hE304; clear hE300
         refine q_step (v := .int .i64 ((F_s_AllCongruences fp0 fp1).2)) hE304 (y_move rfl) rfl rfl rfl ?_; intro a305 hE306; clear hE304
         refine q_step (v := .bool (!decide (((F_AllCongruences fp0 fp1).2) = ((F_s_AllCongruences fp0 fp1).2)))) hE306 (y_neq rfl rfl) rfl rfl rfl ?_; intro a307 hE308; clear hE306
         refine q_step (v := .bool (!decide (((F_AllCongruences fp0 fp1).2) = ((F_s_AllCongruences fp0 fp1).2)))) hE308 (y_pick (b := false) rfl rfl) rfl rfl rfl ?_; intro a309 hE310; clear hE308
         refine c_nil ?_
         have hE311 := hE310.sub (L' := [(1, .pointer (some ⟨b2, 0, none⟩)), (4, .slice b58 (((F_s_AllCongruences fp0 fp1).1).length) c59), (5, .int .i64 ((F_s_AllCongruences fp0 fp1).2)), (7, .slice b107 (((F_AllCongruences fp0 fp1).1).length) c108), (61, .bool (!decide (((F_AllCongruences fp0 fp1).2) = ((F_s_AllCongruences fp0 fp1).2))))]) ⟨rfl, rfl, rfl, rfl, rfl, trivial⟩; clear hE310
         refine p_tn ?_
         have hE312 := hE311.sub (L' := [(1, .pointer (some ⟨b2, 0, none⟩)), (4, .slice b58 (((F_s_AllCongruences fp0 fp1).1).length) c59), (5, .int .i64 ((F_s_AllCongruences fp0 fp1).2)), (7, .slice b107 (((F_AllCongruences fp0 fp1).1).length) c108), (61, .bool (!decide (((F_AllCongruences fp0 fp1).2) = ((F_s_AllCongruences fp0 fp1).2))))]) ⟨rfl, rfl, rfl, rfl, rfl, trivial⟩
         have hS313 := (St.pick (Γ' := [.own 2 1 b83 ((fp1).length) c84 (marked fp1.length 1), .own 2 1 b196 ((fp1).length) c197 fp1, .nest 22 1 (some 2) b107 c108 h109 ((F_AllCongruences fp0 fp1).1), .blk b86 #[.int .i64 fp0, .slice b83 ((fp1).length) c84] 30, .nest 22 1 none b58 c59 h60 ((F_s_AllCongruences fp0 fp1).1), .own 2 1 b49 ((fp1).length) c50 fp1, .rd 1 fp1A fp1.length fp1C fp1, .blk b2 #[.int .i64 fp0, .slice fp1A fp1.length fp1C] 24]) hS277 [0, 1, 2, 3, 4, 5, 6, 7] (by decide) rfl)
         exact ⟨(by rw [hb285, hb241]; exact hE312), hS313⟩
      ·
       rintro a314 w315 ⟨hE316, hS317⟩; clear hE234 hS229
       refine c_cond hE316 rfl (fun ht319 => ?_) (fun ht319 => ?_)
       ·
        have hE320 := hE316; rw [ht319] at hE320; clear hE316
        refine c_seq ?_
        refine c_reg ?_
        refine q_step (v := .bool false) hE320 (y_assign rfl) rfl rfl rfl ?_; intro a321 hE322; clear hE320
        refine c_nil ?_
        have hE323 := hE322.sub (L' := [(2, .bool false)]) ⟨rfl, trivial⟩; clear hE322
        refine p_tn ?_
        refine wp_ret ?_
        refine p_tr ?_
        have hF : F_l_FnExactAllCongruences fp0 fp1 = false := by unfold F_l_FnExactAllCongruences; rw [ht319, ht208, ht171, ht32]; first | done | rfl
        refine c_ret1 hE323 rfl rfl ?_
        exact ⟨(by rw [hF]; first | done | (dsimp only; done) | rfl), hS317.ext⟩
       ·
        obtain ⟨ht324, ht325⟩ := bor_f ht319
        have hp326 := of_decide_eq_false ht324
        obtain ⟨ht327, ht328⟩ := bor_f ht325
        have ht329 := bn_f ht327
        have hp330 := of_decide_eq_true ht329
        have ht331 := bn_f ht328
        have hp332 := of_decide_eq_true ht331
        have hE333 := hE316; rw [ht319] at hE333; clear hE316
        refine wp_skip ?_
        refine p_tn ?_
        refine c_seq ?_
        refine c_reg ?_
        refine q_step (v := .int .i64 1) hE333 (y_assign rfl) rfl rfl rfl ?_; intro a334 hE335; clear hE333
        refine c_nil ?_
        have hE336 := hE335.sub (L' := [(1, .pointer (some ⟨b2, 0, none⟩)), (4, .slice b58 (((F_s_AllCongruences fp0 fp1).1).length) c59), (5, .int .i64 ((F_s_AllCongruences fp0 fp1).2)), (7, .slice b107 (((F_AllCongruences fp0 fp1).1).length) c108), (10, .int .i64 1)]) ⟨rfl, rfl, rfl, rfl, rfl, trivial⟩; clear hE335
        refine p_tn ?_
        refine c_seq ?_
        refine c_reg ?_
        refine q_step (v := .slice b107 (((F_AllCongruences fp0 fp1).1).length) c108) hE336 (y_move rfl) rfl rfl rfl ?_; intro a337 hE338; clear hE336
        refine q_step (v := .int .i64 1) hE338 (y_move rfl) rfl rfl rfl ?_; intro a339 hE340; clear hE338
        have hS347 := (St.pick (Γ' := [.nest 22 1 (some 2) b107 c108 h109 ((F_AllCongruences fp0 fp1).1), .own 2 1 b83 ((fp1).length) c84 (marked fp1.length 1), .own 2 1 b196 ((fp1).length) c197 fp1, .blk b86 #[.int .i64 fp0, .slice b83 ((fp1).length) c84] 30, .nest 22 1 none b58 c59 h60 ((F_s_AllCongruences fp0 fp1).1), .own 2 1 b49 ((fp1).length) c50 fp1, .rd 1 fp1A fp1.length fp1C fp1, .blk b2 #[.int .i64 fp0, .slice fp1A fp1.length fp1C] 24]) hS317 [2, 0, 1, 3, 4, 5, 6, 7] (by decide) rfl); clear hS317
        refine l_step hE340 rfl (l_call (f := 47) (argv := [.slice b107 (((F_AllCongruences fp0 fp1).1).length) c108, .int .i64 1]) hE340 (fun _ => cf_l_markInt64SS _ _) rfl rfl (d_l_markInt64SS b107 c108 h109 ((F_AllCongruences fp0 fp1).1) 1 w315 w [.own 2 1 b83 ((fp1).length) c84 (marked fp1.length 1), .own 2 1 b196 ((fp1).length) c197 fp1, .blk b86 #[.int .i64 fp0, .slice b83 ((fp1).length) c84] 30, .nest 22 1 none b58 c59 h60 ((F_s_AllCongruences fp0 fp1).1), .own 2 1 b49 ((fp1).length) c50 fp1, .rd 1 fp1A fp1.length fp1C fp1, .blk b2 #[.int .i64 fp0, .slice fp1A fp1.length fp1C] 24] hS347 (by first | omega | (simp only [marked_len]; omega) | (simp only [marked_len] at *; omega)) (by first | omega | (simp only [marked_len]; omega) | (simp only [marked_len] at *; omega)) (by first | omega | (simp only [marked_len]; omega) | (simp only [marked_len] at *; omega))) ?_)
        rintro _ w342 ⟨rfl, hS345⟩ a343 hE344; clear hE340 hS347
        refine q_step (v := .int .i64 (1 + (totL ((F_AllCongruences fp0 fp1).1) : Int))) hE344 (y_assign rfl) rfl rfl rfl ?_; intro a348 hE349; clear hE344
        refine c_nil ?_
        have hE350 := hE349.sub (L' := [(1, .pointer (some ⟨b2, 0, none⟩)), (4, .slice b58 (((F_s_AllCongruences fp0 fp1).1).length) c59), (5, .int .i64 ((F_s_AllCongruences fp0 fp1).2)), (7, .slice b107 (((F_AllCongruences fp0 fp1).1).length) c108), (10, .int .i64 (1 + (totL ((F_AllCongruences fp0 fp1).1) : Int)))]) ⟨rfl, rfl, rfl, rfl, rfl, trivial⟩; clear hE349
        refine p_tn ?_
        refine c_seq ?_
        refine c_reg ?_
        refine q_step (v := .int .i64 1) hE350 (y_assign rfl) rfl rfl rfl ?_; intro a351 hE352; clear hE350
        refine c_nil ?_
        have hE353 := hE352.sub (L' := [(1, .pointer (some ⟨b2, 0, none⟩)), (4, .slice b58 (((F_s_AllCongruences fp0 fp1).1).length) c59), (5, .int .i64 ((F_s_AllCongruences fp0 fp1).2)), (7, .slice b107 (((F_AllCongruences fp0 fp1).1).length) c108), (10, .int .i64 (1 + (totL ((F_AllCongruences fp0 fp1).1) : Int))), (11, .int .i64 1)]) ⟨rfl, rfl, rfl, rfl, rfl, rfl, trivial⟩; clear hE352
        refine p_tn ?_
        refine c_seq ?_
        refine c_reg ?_
        refine q_step (v := .slice b107 (((F_AllCongruences fp0 fp1).1).length) c108) hE353 (y_move rfl) rfl rfl rfl ?_; intro a354 hE355; clear hE353
        refine q_step (v := .int .i64 1) hE355 (y_move rfl) rfl rfl rfl ?_; intro a356 hE357; clear hE355
        refine l_step hE357 rfl (l_call (f := 48) (argv := [.slice b107 (((F_AllCongruences fp0 fp1).1).length) c108, .int .i64 1]) hE357 (fun _ => cf_l_heldInt64SS _ _) rfl rfl (c_l_heldInt64SS b107 (((F_AllCongruences fp0 fp1).1).length) c108 h109 (markedL ((F_AllCongruences fp0 fp1).1) 1) 1 w342 (by have h := (St.rdNo (i := 0) hS345 rfl); rw [markedL_len] at h; exact h) (by first | omega | (simp only [marked_len]; omega) | (simp only [marked_len] at *; omega)) (by first | omega | (simp only [marked_len]; omega) | (simp only [marked_len] at *; omega)) (by rw [markedL_tot]; omega)) ?_)
        rintro _ w359 ⟨rfl, he363⟩ a360 hE361; clear hE357
        have hS362 := St.go hS345 he363; clear hS345
        refine q_step (v := .int .i64 (F_l_heldInt64SS (markedL ((F_AllCongruences fp0 fp1).1) 1) 1)) hE361 (y_assign rfl) rfl rfl rfl ?_; intro a364 hE365; clear hE361
        refine c_nil ?_
        have hE366 := hE365.sub (L' := [(1, .pointer (some ⟨b2, 0, none⟩)), (4, .slice b58 (((F_s_AllCongruences fp0 fp1).1).length) c59), (5, .int .i64 ((F_s_AllCongruences fp0 fp1).2)), (7, .slice b107 (((F_AllCongruences fp0 fp1).1).length) c108), (10, .int .i64 (1 + (totL ((F_AllCongruences fp0 fp1).1) : Int))), (11, .int .i64 (F_l_heldInt64SS (markedL ((F_AllCongruences fp0 fp1).1) 1) 1))]) ⟨rfl, rfl, rfl, rfl, rfl, rfl, trivial⟩; clear hE365
        refine p_tn ?_
        refine c_seq ?_
        refine c_seq ?_
        refine c_reg ?_
        refine q_step (v := .int .i64 (F_l_heldInt64SS (markedL ((F_AllCongruences fp0 fp1).1) 1) 1)) hE366 (y_move rfl) rfl rfl rfl ?_; intro a367 hE368; clear hE366
        refine q_step (v := .bool (decide ((F_l_heldInt64SS (markedL ((F_AllCongruences fp0 fp1).1) 1) 1) < 0))) hE368 (y_lss rfl rfl) rfl rfl rfl ?_; intro a369 hE370; clear hE368
        refine c_nil ?_
        have hE371 := hE370.sub (L' := [(1, .pointer (some ⟨b2, 0, none⟩)), (4, .slice b58 (((F_s_AllCongruences fp0 fp1).1).length) c59), (5, .int .i64 ((F_s_AllCongruences fp0 fp1).2)), (7, .slice b107 (((F_AllCongruences fp0 fp1).1).length) c108), (10, .int .i64 (1 + (totL ((F_AllCongruences fp0 fp1).1) : Int))), (11, .int .i64 (F_l_heldInt64SS (markedL ((F_AllCongruences fp0 fp1).1) 1) 1)), (69, .bool (decide ((F_l_heldInt64SS (markedL ((F_AllCongruences fp0 fp1).1) 1) 1) < 0)))]) ⟨rfl, rfl, rfl, rfl, rfl, rfl, rfl, trivial⟩; clear hE370
        refine p_tn ?_
        refine c_cond hE371 rfl (fun ht372 => ?_) (fun ht372 => ?_)
        ·
         have hp373 := of_decide_eq_true ht372
         have hE374 := hE371; rw [ht372] at hE374; clear hE371
         refine c_seq ?_
         refine c_reg ?_
         refine q_step (v := .bool false) hE374 (y_assign rfl) rfl rfl rfl ?_; intro a375 hE376; clear hE374
         refine c_nil ?_
         have hE377 := hE376.sub (L' := [(2, .bool false)]) ⟨rfl, trivial⟩; clear hE376
         refine p_tn ?_
         refine wp_ret ?_
         refine p_tr ?_
         have hF : F_l_FnExactAllCongruences fp0 fp1 = false := by unfold F_l_FnExactAllCongruences; rw [ht372, ht319, ht208, ht171, ht32]; first | done | rfl
         refine c_ret1 hE377 rfl rfl ?_
         exact ⟨(by rw [hF]; first | done | (dsimp only; done) | rfl), hS362.ext⟩
        ·
         have hp378 := of_decide_eq_false ht372
         have hE379 := hE371; rw [ht372] at hE379; clear hE371
         refine wp_skip ?_
         refine p_tn ?_
         refine c_seq ?_
         refine c_seq ?_
         refine c_reg ?_
         refine q_step (v := .int .i64 (F_l_heldInt64SS (markedL ((F_AllCongruences fp0 fp1).1) 1) 1)) hE379 (y_move rfl) rfl rfl rfl ?_; intro a380 hE381; clear hE379
         refine q_step (v := .int .i64 (1 + (totL ((F_AllCongruences fp0 fp1).1) : Int))) hE381 (y_move rfl) rfl rfl rfl ?_; intro a382 hE383; clear hE381
         refine q_step (v := .bool (!decide ((F_l_heldInt64SS (markedL ((F_AllCongruences fp0 fp1).1) 1) 1) = (1 + (totL ((F_AllCongruences fp0 fp1).1) : Int))))) hE383 (y_neq rfl rfl) rfl rfl rfl ?_; intro a384 hE385; clear hE383
         refine c_nil ?_
         have hE386 := hE385.sub (L' := [(1, .pointer (some ⟨b2, 0, none⟩)), (4, .slice b58 (((F_s_AllCongruences fp0 fp1).1).length) c59), (5, .int .i64 ((F_s_AllCongruences fp0 fp1).2)), (7, .slice b107 (((F_AllCongruences fp0 fp1).1).length) c108), (10, .int .i64 (1 + (totL ((F_AllCongruences fp0 fp1).1) : Int))), (72, .bool (!decide ((F_l_heldInt64SS (markedL ((F_AllCongruences fp0 fp1).1) 1) 1) = (1 + (totL ((F_AllCongruences fp0 fp1).1) : Int)))))]) ⟨rfl, rfl, rfl, rfl, rfl, rfl, trivial⟩; clear hE385
         refine p_tn ?_
         refine c_cond hE386 rfl (fun ht387 => ?_) (fun ht387 => ?_)
         ·
          have ht388 := bn_t ht387
          have hp389 := of_decide_eq_false ht388
          have hE390 := hE386; rw [ht387] at hE390; clear hE386
          refine c_seq ?_
          refine c_reg ?_
          refine q_step (v := .bool false) hE390 (y_assign rfl) rfl rfl rfl ?_; intro a391 hE392; clear hE390
          refine c_nil ?_
          have hE393 := hE392.sub (L' := [(2, .bool false)]) ⟨rfl, trivial⟩; clear hE392
          refine p_tn ?_
          refine wp_ret ?_
          refine p_tr ?_
          have hF : F_l_FnExactAllCongruences fp0 fp1 = false := by unfold F_l_FnExactAllCongruences; rw [ht387, ht372, ht319, ht208, ht171, ht32]; first | done | rfl
          refine c_ret1 hE393 rfl rfl ?_
          exact ⟨(by rw [hF]; first | done | (dsimp only; done) | rfl), hS362.ext⟩
         ·
          have ht394 := bn_f ht387
          have hp395 := of_decide_eq_true ht394
          have hE396 := hE386; rw [ht387] at hE396; clear hE386
          refine wp_skip ?_
          refine p_tn ?_
          refine c_seq ?_
          refine c_reg ?_
          refine q_step (v := .agg #[.int .i64 fp0, .slice fp1A fp1.length fp1C]) hE396 (y_loadS Try.underlying24 rfl (by kernel_rfl) rfl (St.row (i := 7) hS362 rfl)) rfl rfl rfl ?_; intro a397 hE398; clear hE396
          refine l_step hE398 rfl (l_call (f := 30) (argv := [.agg #[.int .i64 fp0, .slice fp1A fp1.length fp1C]]) hE398 (fun _ => cf_l_toFrame _ _) rfl rfl (d_l_toFrame fp0 fp1A fp1.length fp1C fp1 w359 (St.rdR (i := 6) hS362 rfl) (by first | omega | (simp only [marked_len]; omega) | (simp only [marked_len] at *; omega))) ?_)
          rintro _ w400 ⟨b405, c406, rfl, ho407, he404⟩ a401 hE402; clear hE398
          have hS403 := St.own hS362 he404 ho407; clear hS362
          refine l_step hE402 rfl (l_call (f := 45) (argv := [.agg #[.int .i64 fp0, .slice b405 ((fp1).length) c406]]) hE402 (fun _ => cf_AllCongruences _ _) rfl rfl (c_AllCongruences fp0 b405 ((fp1).length) c406 fp1 w400 (St.rdO (i := 0) hS403 rfl)) ?_)
          rintro _ w409 ⟨b414, c415, h416, rfl, ho417, he413⟩ a410 hE411; clear hE402
          have hf418 := AllCongruences_tot fp0 fp1
          have hS412 := St.ownN hS403 he413 ho417; clear hS403
          refine q_step (v := .tuple #[.slice b414 (((F_AllCongruences fp0 fp1).1).length) c415, .int .i64 ((F_AllCongruences fp0 fp1).2)]) hE411 (y_move rfl) rfl rfl rfl ?_; intro a419 hE420; clear hE411
          refine q_step (v := .slice b414 (((F_AllCongruences fp0 fp1).1).length) c415) hE420 (y_extract rfl rfl) rfl rfl rfl ?_; intro a421 hE422; clear hE420
          refine q_step (v := .int .i64 ((F_AllCongruences fp0 fp1).2)) hE422 (y_extract rfl rfl) rfl rfl rfl ?_; intro a423 hE424; clear hE422
          refine q_step (v := .slice b414 (((F_AllCongruences fp0 fp1).1).length) c415) hE424 (y_assign rfl) rfl rfl rfl ?_; intro a425 hE426; clear hE424
          refine q_step (v := .int .i64 ((F_AllCongruences fp0 fp1).2)) hE426 (y_assign rfl) rfl rfl rfl ?_; intro a427 hE428; clear hE426
          refine c_nil ?_
          have hE429 := hE428.sub (L' := [(4, .slice b58 (((F_s_AllCongruences fp0 fp1).1).length) c59), (5, .int .i64 ((F_s_AllCongruences fp0 fp1).2)), (7, .slice b107 (((F_AllCongruences fp0 fp1).1).length) c108), (10, .int .i64 (1 + (totL ((F_AllCongruences fp0 fp1).1) : Int))), (12, .slice b414 (((F_AllCongruences fp0 fp1).1).length) c415), (13, .int .i64 ((F_AllCongruences fp0 fp1).2))]) ⟨rfl, rfl, rfl, rfl, rfl, rfl, trivial⟩; clear hE428
          refine p_tn ?_
          refine c_seq ?_
          refine c_cut (fun a' w' => E a' 96 [(7, .slice b107 (((F_AllCongruences fp0 fp1).1).length) c108), (10, .int .i64 (1 + (totL ((F_AllCongruences fp0 fp1).1) : Int))), (87, .bool ((!(decide (((F_AllCongruences fp0 fp1).1) = ((F_s_AllCongruences fp0 fp1).1)))) || (!decide (((F_AllCongruences fp0 fp1).2) = ((F_s_AllCongruences fp0 fp1).2)))))] ∧ St w w' [.nest 22 1 (some 2) b414 c415 h416 ((F_AllCongruences fp0 fp1).1), .own 2 1 b405 ((fp1).length) c406 fp1, .nest 22 1 (some 2) b107 c108 h109 (markedL ((F_AllCongruences fp0 fp1).1) 1), .own 2 1 b83 ((fp1).length) c84 (marked fp1.length 1), .own 2 1 b196 ((fp1).length) c197 fp1, .blk b86 #[.int .i64 fp0, .slice b83 ((fp1).length) c84] 30, .nest 22 1 none b58 c59 h60 ((F_s_AllCongruences fp0 fp1).1), .own 2 1 b49 ((fp1).length) c50 fp1, .rd 1 fp1A fp1.length fp1C fp1, .blk b2 #[.int .i64 fp0, .slice fp1A fp1.length fp1C] 24]) ?_ ?_
          ·
           refine c_reg ?_
           refine q_step (v := .slice b414 (((F_AllCongruences fp0 fp1).1).length) c415) hE429 (y_move rfl) rfl rfl rfl ?_; intro a430 hE431; clear hE429
           refine q_step (v := .slice b58 (((F_s_AllCongruences fp0 fp1).1).length) c59) hE431 (y_move rfl) rfl rfl rfl ?_; intro a432 hE433; clear hE431
           refine l_step hE433 rfl (l_call (f := 46) (argv := [.slice b414 (((F_AllCongruences fp0 fp1).1).length) c415, .slice b58 (((F_s_AllCongruences fp0 fp1).1).length) c59]) hE433 (fun _ => cf_l_eqInt64SS _ _) rfl rfl (d_l_eqInt64SS b414 (((F_AllCongruences fp0 fp1).1).length) c415 h416 ((F_AllCongruences fp0 fp1).1) b58 (((F_s_AllCongruences fp0 fp1).1).length) c59 h60 ((F_s_AllCongruences fp0 fp1).1) w409 (St.rdNo (i := 0) hS412 rfl) (St.rdNo (i := 6) hS412 rfl)) ?_)
           rintro _ w435 ⟨rfl, he439⟩ a436 hE437; clear hE433
           have hS438 := St.go hS412 he439; clear hS412
           refine q_step (v := .bool (!(decide (((F_AllCongruences fp0 fp1).1) = ((F_s_AllCongruences fp0 fp1).1))))) hE437 (y_not rfl) rfl rfl rfl ?_; intro a440 hE441; clear hE437
           refine q_step (v := .bool (!(decide (((F_AllCongruences fp0 fp1).1) = ((F_s_AllCongruences fp0 fp1).1))))) hE441 (y_move rfl) rfl rfl rfl ?_; intro a442 hE443; clear hE441
           rcases Bool.eq_false_or_eq_true (!(decide (((F_AllCongruences fp0 fp1).1) = ((F_s_AllCongruences fp0 fp1).1)))) with hb444 | hb444
           ·
            have hE445 := hE443; (try rw [hb444] at hE445); clear hE443
            have ht446 := bn_t hb444
            have hp447 := of_decide_eq_false ht446
            refine q_skip hE445 rfl rfl rfl ?_; intro a448 hE449; clear hE445
            refine q_skip hE449 rfl rfl rfl ?_; intro a450 hE451; clear hE449
            refine q_skip hE451 rfl rfl rfl ?_; intro a452 hE453; clear hE451
            refine q_step (v := .bool true) hE453 (y_pick (b := true) rfl rfl) rfl rfl rfl ?_; intro a454 hE455; clear hE453
            refine c_nil ?_
            have hE456 := hE455.sub (L' := [(7, .slice b107 (((F_AllCongruences fp0 fp1).1).length) c108), (10, .int .i64 (1 + (totL ((F_AllCongruences fp0 fp1).1) : Int))), (87, .bool true)]) ⟨rfl, rfl, rfl, trivial⟩; clear hE455
            refine p_tn ?_
            have hE457 := hE456.sub (L' := [(7, .slice b107 (((F_AllCongruences fp0 fp1).1).length) c108), (10, .int .i64 (1 + (totL ((F_AllCongruences fp0 fp1).1) : Int))), (87, .bool true)]) ⟨rfl, rfl, rfl, trivial⟩
            have hS458 := (St.pick (Γ' := [.nest 22 1 (some 2) b414 c415 h416 ((F_AllCongruences fp0 fp1).1), .own 2 1 b405 ((fp1).length) c406 fp1, .nest 22 1 (some 2) b107 c108 h109 (markedL ((F_AllCongruences fp0 fp1).1) 1), .own 2 1 b83 ((fp1).length) c84 (marked fp1.length 1), .own 2 1 b196 ((fp1).length) c197 fp1, .blk b86 #[.int .i64 fp0, .slice b83 ((fp1).length) c84] 30, .nest 22 1 none b58 c59 h60 ((F_s_AllCongruences fp0 fp1).1), .own 2 1 b49 ((fp1).length) c50 fp1, .rd 1 fp1A fp1.length fp1C fp1, .blk b2 #[.int .i64 fp0, .slice fp1A fp1.length fp1C] 24]) hS438 [0, 1, 2, 3, 4, 5, 6, 7, 8, 9] (by decide) rfl)
            exact ⟨(by rw [hb444]; exact hE457), hS458⟩
           ·
            have hE459 := hE443; (try rw [hb444] at hE459); clear hE443
            have ht460 := bn_f hb444
            have hp461 := of_decide_eq_true ht460
            refine q_step (v := .int .i64 ((F_AllCongruences fp0 fp1).2)) hE459 (y_move rfl) rfl rfl rfl ?_; intro a462 hE463; clear hE459
            refine q_step (v := .int .i64 ((F_s_AllCongruences fp0 fp1).2)) hE463 (y_move rfl) rfl rfl rfl ?_; intro a464 hE465; clear hE463
            refine q_step (v := .bool (!decide (((F_AllCongruences fp0 fp1).2) = ((F_s_AllCongruences fp0 fp1).2)))) hE465 (y_neq rfl rfl) rfl rfl rfl ?_; intro a466 hE467; clear hE465
            refine q_step (v := .bool (!decide (((F_AllCongruences fp0 fp1).2) = ((F_s_AllCongruences fp0 fp1).2)))) hE467 (y_pick (b := false) rfl rfl) rfl rfl rfl ?_; intro a468 hE469; clear hE467
            refine c_nil ?_
            have hE470 := hE469.sub (L' := [(7, .slice b107 (((F_AllCongruences fp0 fp1).1).length) c108), (10, .int .i64 (1 + (totL ((F_AllCongruences fp0 fp1).1) : Int))), (87, .bool (!decide (((F_AllCongruences fp0 fp1).2) = ((F_s_AllCongruences fp0 fp1).2))))]) ⟨rfl, rfl, rfl, trivial⟩; clear hE469
            refine p_tn ?_
            have hE471 := hE470.sub (L' := [(7, .slice b107 (((F_AllCongruences fp0 fp1).1).length) c108), (10, .int .i64 (1 + (totL ((F_AllCongruences fp0 fp1).1) : Int))), (87, .bool (!decide (((F_AllCongruences fp0 fp1).2) = ((F_s_AllCongruences fp0 fp1).2))))]) ⟨rfl, rfl, rfl, trivial⟩
            have hS472 := (St.pick (Γ' := [.nest 22 1 (some 2) b414 c415 h416 ((F_AllCongruences fp0 fp1).1), .own 2 1 b405 ((fp1).length) c406 fp1, .nest 22 1 (some 2) b107 c108 h109 (markedL ((F_AllCongruences fp0 fp1).1) 1), .own 2 1 b83 ((fp1).length) c84 (marked fp1.length 1), .own 2 1 b196 ((fp1).length) c197 fp1, .blk b86 #[.int .i64 fp0, .slice b83 ((fp1).length) c84] 30, .nest 22 1 none b58 c59 h60 ((F_s_AllCongruences fp0 fp1).1), .own 2 1 b49 ((fp1).length) c50 fp1, .rd 1 fp1A fp1.length fp1C fp1, .blk b2 #[.int .i64 fp0, .slice fp1A fp1.length fp1C] 24]) hS438 [0, 1, 2, 3, 4, 5, 6, 7, 8, 9] (by decide) rfl)
            exact ⟨(by rw [hb444]; exact hE471), hS472⟩
          ·
           rintro a473 w474 ⟨hE475, hS476⟩; clear hE429 hS412
           have hE478 := hE475; rw [ht171] at hE478; clear hE475
           refine c_false hE478 rfl ?_
           refine wp_skip ?_
           refine p_tn ?_
           refine c_seq ?_
           refine c_reg ?_
           refine q_step (v := .int .i64 1) hE478 (y_assign rfl) rfl rfl rfl ?_; intro a479 hE480; clear hE478
           refine c_nil ?_
           have hE481 := hE480.sub (L' := [(7, .slice b107 (((F_AllCongruences fp0 fp1).1).length) c108), (10, .int .i64 (1 + (totL ((F_AllCongruences fp0 fp1).1) : Int))), (11, .int .i64 1)]) ⟨rfl, rfl, rfl, trivial⟩; clear hE480
           refine p_tn ?_
           refine c_seq ?_
           refine c_reg ?_
           refine q_step (v := .slice b107 (((F_AllCongruences fp0 fp1).1).length) c108) hE481 (y_move rfl) rfl rfl rfl ?_; intro a482 hE483; clear hE481
           refine q_step (v := .int .i64 1) hE483 (y_move rfl) rfl rfl rfl ?_; intro a484 hE485; clear hE483
           refine l_step hE485 rfl (l_call (f := 48) (argv := [.slice b107 (((F_AllCongruences fp0 fp1).1).length) c108, .int .i64 1]) hE485 (fun _ => cf_l_heldInt64SS _ _) rfl rfl (c_l_heldInt64SS b107 (((F_AllCongruences fp0 fp1).1).length) c108 h109 (markedL ((F_AllCongruences fp0 fp1).1) 1) 1 w474 (by have h := (St.rdNo (i := 2) hS476 rfl); rw [markedL_len] at h; exact h) (by first | omega | (simp only [marked_len]; omega) | (simp only [marked_len] at *; omega)) (by first | omega | (simp only [marked_len]; omega) | (simp only [marked_len] at *; omega)) (by rw [markedL_tot]; omega)) ?_)
           rintro _ w487 ⟨rfl, he491⟩ a488 hE489; clear hE485
           have hS490 := St.go hS476 he491; clear hS476
           refine q_step (v := .int .i64 (F_l_heldInt64SS (markedL ((F_AllCongruences fp0 fp1).1) 1) 1)) hE489 (y_assign rfl) rfl rfl rfl ?_; intro a492 hE493; clear hE489
           refine c_nil ?_
           have hE494 := hE493.sub (L' := [(10, .int .i64 (1 + (totL ((F_AllCongruences fp0 fp1).1) : Int))), (11, .int .i64 (F_l_heldInt64SS (markedL ((F_AllCongruences fp0 fp1).1) 1) 1))]) ⟨rfl, rfl, trivial⟩; clear hE493
           refine p_tn ?_
           refine c_seq ?_
           refine c_seq ?_
           refine c_reg ?_
           refine q_step (v := .int .i64 (F_l_heldInt64SS (markedL ((F_AllCongruences fp0 fp1).1) 1) 1)) hE494 (y_move rfl) rfl rfl rfl ?_; intro a495 hE496; clear hE494
           refine q_step (v := .bool (decide ((F_l_heldInt64SS (markedL ((F_AllCongruences fp0 fp1).1) 1) 1) < 0))) hE496 (y_lss rfl rfl) rfl rfl rfl ?_; intro a497 hE498; clear hE496
           refine c_nil ?_
           have hE499 := hE498.sub (L' := [(10, .int .i64 (1 + (totL ((F_AllCongruences fp0 fp1).1) : Int))), (11, .int .i64 (F_l_heldInt64SS (markedL ((F_AllCongruences fp0 fp1).1) 1) 1)), (92, .bool (decide ((F_l_heldInt64SS (markedL ((F_AllCongruences fp0 fp1).1) 1) 1) < 0)))]) ⟨rfl, rfl, rfl, trivial⟩; clear hE498
           refine p_tn ?_
           have hE500 := hE499; rw [ht372] at hE500; clear hE499
           refine c_false hE500 rfl ?_
           refine wp_skip ?_
           refine p_tn ?_
           refine c_seq ?_
           refine c_seq ?_
           refine c_reg ?_
           refine q_step (v := .int .i64 (F_l_heldInt64SS (markedL ((F_AllCongruences fp0 fp1).1) 1) 1)) hE500 (y_move rfl) rfl rfl rfl ?_; intro a501 hE502; clear hE500
           refine q_step (v := .int .i64 (1 + (totL ((F_AllCongruences fp0 fp1).1) : Int))) hE502 (y_move rfl) rfl rfl rfl ?_; intro a503 hE504; clear hE502
           refine q_step (v := .bool (!decide ((F_l_heldInt64SS (markedL ((F_AllCongruences fp0 fp1).1) 1) 1) = (1 + (totL ((F_AllCongruences fp0 fp1).1) : Int))))) hE504 (y_neq rfl rfl) rfl rfl rfl ?_; intro a505 hE506; clear hE504
           refine c_nil ?_
           have hE507 := hE506.sub (L' := [(95, .bool (!decide ((F_l_heldInt64SS (markedL ((F_AllCongruences fp0 fp1).1) 1) 1) = (1 + (totL ((F_AllCongruences fp0 fp1).1) : Int)))))]) ⟨rfl, trivial⟩; clear hE506
           refine p_tn ?_
           have hE508 := hE507; rw [ht387] at hE508; clear hE507
           refine c_false hE508 rfl ?_
           refine wp_skip ?_
           refine p_tn ?_
           refine c_seq ?_
           refine c_reg ?_
           refine q_step (v := .bool true) hE508 (y_assign rfl) rfl rfl rfl ?_; intro a509 hE510; clear hE508
           refine c_nil ?_
           have hE511 := hE510.sub (L' := [(2, .bool true)]) ⟨rfl, trivial⟩; clear hE510
           refine p_tn ?_
           refine wp_ret ?_
           have hF : F_l_FnExactAllCongruences fp0 fp1 = true := by unfold F_l_FnExactAllCongruences; rw [ht387, ht372, ht319, ht208, ht171, ht32]; first | done | rfl
           refine c_ret1 hE511 rfl rfl ?_
           exact ⟨(by rw [hF]; first | done | (dsimp only; done) | rfl), hS490.ext⟩
theorem FnExactAllCongruences_true (fp0 : Int) (fp1 : List Int) : F_l_FnExactAllCongruences fp0 fp1 = true := by
  unfold F_l_FnExactAllCongruences
  rw [AllCongruences_eq, heldSS_eq _ _ (by omega)]
  have h1 : decide (1 + (fp1.length : Int) < 0) = false := decide_eq_false (by omega)
  have h2 : decide ((1 : Int) + (totL (F_s_AllCongruences fp0 fp1).1 : Int) < 0) = false := decide_eq_false (by omega)
  simp [h1, h2]
end Go.Proofs.Ytlbonhloeefnmaa
