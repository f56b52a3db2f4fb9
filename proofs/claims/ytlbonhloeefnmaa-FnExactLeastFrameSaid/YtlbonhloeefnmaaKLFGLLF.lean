/- GLLF: models and contracts, printed by wip/gen/gen.py -/
import Derived.Test.YtlbonhloeefnmaaKLFGA
import Derived.Test.YtlbonhloeefnmaaKLFGLFM
set_option linter.unusedVariables false
set_option linter.unusedSimpArgs false
namespace Go.Proofs.Ytlbonhloeefnmaa
open Go.RowKit
def F_l_FnExactLeastFrame (fp0 : Int) (fp1 : List Int) : Bool :=
  bif (decide ((F_l_szFrame fp0 fp1 1048576) < 0)) then true else (bif ((!(decide (((((F_LeastFrame fp0 fp1).1).1), (((F_LeastFrame fp0 fp1).1).2)) = ((((F_s_LeastFrame fp0 fp1).1).1), (((F_s_LeastFrame fp0 fp1).1).2))))) || (!decide (((F_LeastFrame fp0 fp1).2) = ((F_s_LeastFrame fp0 fp1).2)))) then false else (bif (!(decide ((fp0, fp1) = (fp0, fp1)))) then false else (bif ((decide ((1 + (fp1.length : Int)) < 0)) || ((!(decide (((((F_LeastFrame fp0 fp1).1).1), (((F_LeastFrame fp0 fp1).1).2)) = ((((F_s_LeastFrame fp0 fp1).1).1), (((F_s_LeastFrame fp0 fp1).1).2))))) || (!decide (((F_LeastFrame fp0 fp1).2) = ((F_s_LeastFrame fp0 fp1).2))))) then false else (bif (decide ((F_l_heldFrame (((F_LeastFrame fp0 fp1).1).1) (marked (((F_LeastFrame fp0 fp1).1).2).length 1) 1) < 0)) then false else (bif (!decide ((F_l_heldFrame (((F_LeastFrame fp0 fp1).1).1) (marked (((F_LeastFrame fp0 fp1).1).2).length 1) 1) = (1 + ((((F_LeastFrame fp0 fp1).1).2).length : Int)))) then false else true)))))
set_option maxRecDepth 100000 in
theorem c_l_FnExactLeastFrame (fp0 : Int) (fp1A : Option Addr) (fp1N fp1C : Nat) (fp1 : List Int) (w : World) (fp1R : RdS w 1 fp1A fp1N fp1C fp1) :
    Calls Try.prog 9 #[.agg #[.int .i64 fp0, .slice fp1A fp1N fp1C]] w (Ret fun v w' => v = .bool (F_l_FnExactLeastFrame fp0 fp1) ∧ Ext w w') := by
  obtain rfl : fp1N = fp1.length := fp1R.len1.symm
  have fp1Le := fp1R.le
  have hS := St.nil w
  have hS1 := St.rd0 hS rfl fp1R; clear hS
  refine enter (args := [.agg #[.int .i64 fp0, .slice fp1A fp1.length fp1C]]) Try.func9 rfl rfl ?_
  rw [Try.ntmps9]; intro a hE
  have hE := hE.sub (L' := [(0, .agg #[.int .i64 fp0, .slice fp1A fp1.length fp1C])]) ⟨rfl, trivial⟩
  refine c_seq ?_
  refine c_reg ?_
  refine l_step hE rfl (l_box (v := .agg #[.int .i64 fp0, .slice fp1A fp1.length fp1C]) (cs := #[.int .i64 fp0, .slice fp1A fp1.length fp1C]) hS1 hE rfl rfl rfl ?_)
  intro b2 w3 hS6 he7 a4 hE5; clear hS1 hE
  refine q_step (v := .bool false) hE5 (y_assign rfl) rfl rfl rfl ?_; intro a8 hE9; clear hE5
  refine c_nil ?_
  have hE10 := hE9.sub (L' := [(1, .pointer (some ⟨b2, 0, none⟩))]) ⟨rfl, trivial⟩; clear hE9
  refine p_tn ?_
  refine c_seq ?_
  refine c_reg ?_
  refine q_step (v := .int .i64 1048576) hE10 (y_assign rfl) rfl rfl rfl ?_; intro a11 hE12; clear hE10
  refine c_nil ?_
  have hE13 := hE12.sub (L' := [(1, .pointer (some ⟨b2, 0, none⟩)), (3, .int .i64 1048576)]) ⟨rfl, rfl, trivial⟩; clear hE12
  refine p_tn ?_
  refine c_seq ?_
  refine c_reg ?_
  refine q_step (v := .agg #[.int .i64 fp0, .slice fp1A fp1.length fp1C]) hE13 (y_loadS Try.underlying24 rfl (by kernel_rfl) rfl (St.row (i := 0) hS6 rfl)) rfl rfl rfl ?_; intro a14 hE15; clear hE13
  refine q_step (v := .int .i64 1048576) hE15 (y_move rfl) rfl rfl rfl ?_; intro a16 hE17; clear hE15
  refine l_step hE17 rfl (l_call (f := 28) (argv := [.agg #[.int .i64 fp0, .slice fp1A fp1.length fp1C], .int .i64 1048576]) hE17 (fun _ => cf_l_szFrame _ _) rfl rfl (c_l_szFrame fp0 fp1A fp1.length fp1C fp1 1048576 w3 (St.rdR (i := 1) hS6 rfl) (by first | omega | (simp only [marked_len]; omega) | (simp only [marked_len] at *; omega)) (by first | omega | (simp only [marked_len]; omega) | (simp only [marked_len] at *; omega))) ?_)
  rintro _ w19 ⟨rfl, he23⟩ a20 hE21; clear hE17
  have hS22 := St.go hS6 he23; clear hS6
  refine q_step (v := .int .i64 (F_l_szFrame fp0 fp1 1048576)) hE21 (y_assign rfl) rfl rfl rfl ?_; intro a24 hE25; clear hE21
  refine c_nil ?_
  have hE26 := hE25.sub (L' := [(1, .pointer (some ⟨b2, 0, none⟩)), (3, .int .i64 (F_l_szFrame fp0 fp1 1048576))]) ⟨rfl, rfl, trivial⟩; clear hE25
  refine p_tn ?_
  refine c_seq ?_
  refine c_seq ?_
  refine c_reg ?_
  refine q_step (v := .int .i64 (F_l_szFrame fp0 fp1 1048576)) hE26 (y_move rfl) rfl rfl rfl ?_; intro a27 hE28; clear hE26
  refine q_step (v := .bool (decide ((F_l_szFrame fp0 fp1 1048576) < 0))) hE28 (y_lss rfl rfl) rfl rfl rfl ?_; intro a29 hE30; clear hE28
  refine c_nil ?_
  have hE31 := hE30.sub (L' := [(1, .pointer (some ⟨b2, 0, none⟩)), (18, .bool (decide ((F_l_szFrame fp0 fp1 1048576) < 0)))]) ⟨rfl, rfl, trivial⟩; clear hE30
  refine p_tn ?_
  refine c_cond hE31 rfl (fun ht32 => ?_) (fun ht32 => ?_)
  ·
   have hp33 := of_decide_eq_true ht32
   have hE34 := hE31; rw [ht32] at hE34; clear hE31
   refine c_seq ?_
   refine c_reg ?_
   refine q_step (v := .bool true) hE34 (y_assign rfl) rfl rfl rfl ?_; intro a35 hE36; clear hE34
   refine c_nil ?_
   have hE37 := hE36.sub (L' := [(2, .bool true)]) ⟨rfl, trivial⟩; clear hE36
   refine p_tn ?_
   refine wp_ret ?_
   refine p_tr ?_
   have hF : F_l_FnExactLeastFrame fp0 fp1 = true := by unfold F_l_FnExactLeastFrame; rw [ht32]; first | done | rfl
   refine c_ret1 hE37 rfl rfl ?_
   exact ⟨(by rw [hF]; first | done | (dsimp only; done) | rfl), hS22.ext⟩
  ·
   have hp38 := of_decide_eq_false ht32
   have hq39 := szFrame_bound hp38
   have hE40 := hE31; rw [ht32] at hE40; clear hE31
   refine wp_skip ?_
   refine p_tn ?_
   refine c_seq ?_
   refine c_reg ?_
   refine q_step (v := .agg #[.int .i64 fp0, .slice fp1A fp1.length fp1C]) hE40 (y_loadS Try.underlying24 rfl (by kernel_rfl) rfl (St.row (i := 0) hS22 rfl)) rfl rfl rfl ?_; intro a41 hE42; clear hE40
   refine l_step hE42 rfl (l_call (f := 30) (argv := [.agg #[.int .i64 fp0, .slice fp1A fp1.length fp1C]]) hE42 (fun _ => cf_l_toFrame _ _) rfl rfl (d_l_toFrame fp0 fp1A fp1.length fp1C fp1 w19 (St.rdR (i := 1) hS22 rfl) (by first | omega | (simp only [marked_len]; omega) | (simp only [marked_len] at *; omega))) ?_)
   rintro _ w44 ⟨b49, c50, rfl, ho51, he48⟩ a45 hE46; clear hE42
   have hS47 := St.own hS22 he48 ho51; clear hS22
   refine l_step hE46 rfl (l_call (f := 41) (argv := [.agg #[.int .i64 fp0, .slice b49 ((fp1).length) c50]]) hE46 (fun _ => cf_s_LeastFrame _ _) rfl rfl (c_s_LeastFrame fp0 b49 ((fp1).length) c50 fp1 w44 (St.rdO (i := 0) hS47 rfl)) ?_)
   rintro _ w53 ⟨b58, c59, rfl, ho60, he57⟩ a54 hE55; clear hE46
   have hS56 := St.own hS47 he57 ho60; clear hS47
   refine q_step (v := .tuple #[.agg #[.int .i64 (((F_s_LeastFrame fp0 fp1).1).1), .slice b58 ((((F_s_LeastFrame fp0 fp1).1).2).length) c59], .int .i64 ((F_s_LeastFrame fp0 fp1).2)]) hE55 (y_move rfl) rfl rfl rfl ?_; intro a61 hE62; clear hE55
   refine q_step (v := .agg #[.int .i64 (((F_s_LeastFrame fp0 fp1).1).1), .slice b58 ((((F_s_LeastFrame fp0 fp1).1).2).length) c59]) hE62 (y_extract rfl rfl) rfl rfl rfl ?_; intro a63 hE64; clear hE62
   refine q_step (v := .int .i64 ((F_s_LeastFrame fp0 fp1).2)) hE64 (y_extract rfl rfl) rfl rfl rfl ?_; intro a65 hE66; clear hE64
   refine l_step hE66 rfl (l_alloc (z := .agg #[.int .i64 0, .slice none 0 0]) (cs := #[.int .i64 0, .slice none 0 0]) hS56 hE66 (fun _ => by kernel_rfl) rfl rfl ?_)
   intro b67 w68 hS71 he72 a69 hE70; clear hS56 hE66
   refine l_step hE70 rfl (l_storeS (k := 0) (cs' := #[.int .i64 (((F_s_LeastFrame fp0 fp1).1).1), .slice b58 ((((F_s_LeastFrame fp0 fp1).1).2).length) c59]) hS71 hE70 (by kernel_rfl) rfl rfl (by kernel_rfl) rfl rfl ?_)
   intro w74 hS77 a75 hE76; clear hS71 hE70
   refine q_step (v := .int .i64 ((F_s_LeastFrame fp0 fp1).2)) hE76 (y_assign rfl) rfl rfl rfl ?_; intro a79 hE80; clear hE76
   refine c_nil ?_
   have hE81 := hE80.sub (L' := [(1, .pointer (some ⟨b2, 0, none⟩)), (4, .pointer (some ⟨b67, 0, none⟩)), (5, .int .i64 ((F_s_LeastFrame fp0 fp1).2))]) ⟨rfl, rfl, rfl, trivial⟩; clear hE80
   refine p_tn ?_
   refine c_seq ?_
   refine c_reg ?_
   refine q_step (v := .agg #[.int .i64 fp0, .slice fp1A fp1.length fp1C]) hE81 (y_loadS Try.underlying24 rfl (by kernel_rfl) rfl (St.row (i := 3) hS77 rfl)) rfl rfl rfl ?_; intro a82 hE83; clear hE81
   refine l_step hE83 rfl (l_call (f := 30) (argv := [.agg #[.int .i64 fp0, .slice fp1A fp1.length fp1C]]) hE83 (fun _ => cf_l_toFrame _ _) rfl rfl (d_l_toFrame fp0 fp1A fp1.length fp1C fp1 w74 (St.rdR (i := 4) hS77 rfl) (by first | omega | (simp only [marked_len]; omega) | (simp only [marked_len] at *; omega))) ?_)
   rintro _ w85 ⟨b90, c91, rfl, ho92, he89⟩ a86 hE87; clear hE83
   have hS88 := St.own hS77 he89 ho92; clear hS77
   refine l_step hE87 rfl (l_alloc (z := .agg #[.int .i64 0, .slice none 0 0]) (cs := #[.int .i64 0, .slice none 0 0]) hS88 hE87 (fun _ => by kernel_rfl) rfl rfl ?_)
   intro b93 w94 hS97 he98 a95 hE96; clear hS88 hE87
   refine l_step hE96 rfl (l_storeS (k := 0) (cs' := #[.int .i64 fp0, .slice b90 ((fp1).length) c91]) hS97 hE96 (by kernel_rfl) rfl rfl (by kernel_rfl) rfl rfl ?_)
   intro w100 hS103 a101 hE102; clear hS97 hE96
   refine c_nil ?_
   have hE105 := hE102.sub (L' := [(1, .pointer (some ⟨b2, 0, none⟩)), (4, .pointer (some ⟨b67, 0, none⟩)), (5, .int .i64 ((F_s_LeastFrame fp0 fp1).2)), (6, .pointer (some ⟨b93, 0, none⟩))]) ⟨rfl, rfl, rfl, rfl, trivial⟩; clear hE102
   refine p_tn ?_
   refine c_seq ?_
   refine c_reg ?_
   refine q_step (v := .agg #[.int .i64 fp0, .slice b90 ((fp1).length) c91]) hE105 (y_loadS Try.underlying30 rfl (by kernel_rfl) rfl (St.row (i := 0) hS103 rfl)) rfl rfl rfl ?_; intro a106 hE107; clear hE105
   refine l_step hE107 rfl (l_call (f := 42) (argv := [.agg #[.int .i64 fp0, .slice b90 ((fp1).length) c91]]) hE107 (fun _ => cf_LeastFrame _ _) rfl rfl (c_LeastFrame fp0 b90 ((fp1).length) c91 fp1 w100 (St.rdO (i := 1) hS103 rfl)) ?_)
   rintro _ w109 ⟨b114, c115, rfl, ho116, he113⟩ a110 hE111; clear hE107
   have hf117 := LeastFrame_len fp0 fp1
   have hS112 := St.own hS103 he113 ho116; clear hS103
   refine q_step (v := .tuple #[.agg #[.int .i64 (((F_LeastFrame fp0 fp1).1).1), .slice b114 ((((F_LeastFrame fp0 fp1).1).2).length) c115], .int .i64 ((F_LeastFrame fp0 fp1).2)]) hE111 (y_move rfl) rfl rfl rfl ?_; intro a118 hE119; clear hE111
   refine q_step (v := .agg #[.int .i64 (((F_LeastFrame fp0 fp1).1).1), .slice b114 ((((F_LeastFrame fp0 fp1).1).2).length) c115]) hE119 (y_extract rfl rfl) rfl rfl rfl ?_; intro a120 hE121; clear hE119
   refine q_step (v := .int .i64 ((F_LeastFrame fp0 fp1).2)) hE121 (y_extract rfl rfl) rfl rfl rfl ?_; intro a122 hE123; clear hE121
   refine l_step hE123 rfl (l_alloc (z := .agg #[.int .i64 0, .slice none 0 0]) (cs := #[.int .i64 0, .slice none 0 0]) hS112 hE123 (fun _ => by kernel_rfl) rfl rfl ?_)
   intro b124 w125 hS128 he129 a126 hE127; clear hS112 hE123
   refine l_step hE127 rfl (l_storeS (k := 0) (cs' := #[.int .i64 (((F_LeastFrame fp0 fp1).1).1), .slice b114 ((((F_LeastFrame fp0 fp1).1).2).length) c115]) hS128 hE127 (by kernel_rfl) rfl rfl (by kernel_rfl) rfl rfl ?_)
   intro w131 hS134 a132 hE133; clear hS128 hE127
   refine q_step (v := .int .i64 ((F_LeastFrame fp0 fp1).2)) hE133 (y_assign rfl) rfl rfl rfl ?_; intro a136 hE137; clear hE133
   refine c_nil ?_
   have hE138 := hE137.sub (L' := [(1, .pointer (some ⟨b2, 0, none⟩)), (4, .pointer (some ⟨b67, 0, none⟩)), (5, .int .i64 ((F_s_LeastFrame fp0 fp1).2)), (6, .pointer (some ⟨b93, 0, none⟩)), (7, .pointer (some ⟨b124, 0, none⟩)), (8, .int .i64 ((F_LeastFrame fp0 fp1).2))]) ⟨rfl, rfl, rfl, rfl, rfl, rfl, trivial⟩; clear hE137
   refine p_tn ?_
   refine c_seq ?_
   refine c_cut (fun a' w' => E a' 96 [(1, .pointer (some ⟨b2, 0, none⟩)), (4, .pointer (some ⟨b67, 0, none⟩)), (5, .int .i64 ((F_s_LeastFrame fp0 fp1).2)), (6, .pointer (some ⟨b93, 0, none⟩)), (7, .pointer (some ⟨b124, 0, none⟩)), (8, .int .i64 ((F_LeastFrame fp0 fp1).2)), (40, .bool ((!(decide (((((F_LeastFrame fp0 fp1).1).1), (((F_LeastFrame fp0 fp1).1).2)) = ((((F_s_LeastFrame fp0 fp1).1).1), (((F_s_LeastFrame fp0 fp1).1).2))))) || (!decide (((F_LeastFrame fp0 fp1).2) = ((F_s_LeastFrame fp0 fp1).2)))))] ∧ St w w' [.own 2 1 b114 ((((F_LeastFrame fp0 fp1).1).2).length) c115 (((F_LeastFrame fp0 fp1).1).2), .blk b124 #[.int .i64 (((F_LeastFrame fp0 fp1).1).1), .slice b114 ((((F_LeastFrame fp0 fp1).1).2).length) c115] 30, .own 2 1 b90 ((fp1).length) c91 fp1, .blk b93 #[.int .i64 fp0, .slice b90 ((fp1).length) c91] 30, .own 2 1 b58 ((((F_s_LeastFrame fp0 fp1).1).2).length) c59 (((F_s_LeastFrame fp0 fp1).1).2), .blk b67 #[.int .i64 (((F_s_LeastFrame fp0 fp1).1).1), .slice b58 ((((F_s_LeastFrame fp0 fp1).1).2).length) c59] 30, .own 2 1 b49 ((fp1).length) c50 fp1, .rd 1 fp1A fp1.length fp1C fp1, .blk b2 #[.int .i64 fp0, .slice fp1A fp1.length fp1C] 24]) ?_ ?_
   ·
    refine c_reg ?_
    refine q_step (v := .agg #[.int .i64 (((F_LeastFrame fp0 fp1).1).1), .slice b114 ((((F_LeastFrame fp0 fp1).1).2).length) c115]) hE138 (y_loadS Try.underlying30 rfl (by kernel_rfl) rfl (St.row (i := 0) hS134 rfl)) rfl rfl rfl ?_; intro a139 hE140; clear hE138
    refine q_step (v := .agg #[.int .i64 (((F_s_LeastFrame fp0 fp1).1).1), .slice b58 ((((F_s_LeastFrame fp0 fp1).1).2).length) c59]) hE140 (y_loadS Try.underlying30 rfl (by kernel_rfl) rfl (St.row (i := 4) hS134 rfl)) rfl rfl rfl ?_; intro a141 hE142; clear hE140
    refine l_step hE142 rfl (l_call (f := 32) (argv := [.agg #[.int .i64 (((F_LeastFrame fp0 fp1).1).1), .slice b114 ((((F_LeastFrame fp0 fp1).1).2).length) c115], .agg #[.int .i64 (((F_s_LeastFrame fp0 fp1).1).1), .slice b58 ((((F_s_LeastFrame fp0 fp1).1).2).length) c59]]) hE142 (fun _ => cf_l_eqFrame _ _) rfl rfl (d_l_eqFrame (((F_LeastFrame fp0 fp1).1).1) b114 ((((F_LeastFrame fp0 fp1).1).2).length) c115 (((F_LeastFrame fp0 fp1).1).2) (((F_s_LeastFrame fp0 fp1).1).1) b58 ((((F_s_LeastFrame fp0 fp1).1).2).length) c59 (((F_s_LeastFrame fp0 fp1).1).2) w131 (St.rdO (i := 1) hS134 rfl) (St.rdO (i := 5) hS134 rfl)) ?_)
    rintro _ w144 ⟨rfl, he148⟩ a145 hE146; clear hE142
    have hS147 := St.go hS134 he148; clear hS134
    refine q_step (v := .bool (!(decide (((((F_LeastFrame fp0 fp1).1).1), (((F_LeastFrame fp0 fp1).1).2)) = ((((F_s_LeastFrame fp0 fp1).1).1), (((F_s_LeastFrame fp0 fp1).1).2)))))) hE146 (y_not rfl) rfl rfl rfl ?_; intro a149 hE150; clear hE146
    refine q_step (v := .bool (!(decide (((((F_LeastFrame fp0 fp1).1).1), (((F_LeastFrame fp0 fp1).1).2)) = ((((F_s_LeastFrame fp0 fp1).1).1), (((F_s_LeastFrame fp0 fp1).1).2)))))) hE150 (y_move rfl) rfl rfl rfl ?_; intro a151 hE152; clear hE150
    rcases Bool.eq_false_or_eq_true (!(decide (((((F_LeastFrame fp0 fp1).1).1), (((F_LeastFrame fp0 fp1).1).2)) = ((((F_s_LeastFrame fp0 fp1).1).1), (((F_s_LeastFrame fp0 fp1).1).2))))) with hb153 | hb153
    ·
     have hE154 := hE152; (try rw [hb153] at hE154); clear hE152
     have ht155 := bn_t hb153
     have hp156 := of_decide_eq_false ht155
     refine q_skip hE154 rfl rfl rfl ?_; intro a157 hE158; clear hE154
     refine q_skip hE158 rfl rfl rfl ?_; intro a159 hE160; clear hE158
     refine q_skip hE160 rfl rfl rfl ?_; intro a161 hE162; clear hE160
     refine q_step (v := .bool true) hE162 (y_pick (b := true) rfl rfl) rfl rfl rfl ?_; intro a163 hE164; clear hE162
     refine c_nil ?_
     have hE165 := hE164.sub (L' := [(1, .pointer (some ⟨b2, 0, none⟩)), (4, .pointer (some ⟨b67, 0, none⟩)), (5, .int .i64 ((F_s_LeastFrame fp0 fp1).2)), (6, .pointer (some ⟨b93, 0, none⟩)), (7, .pointer (some ⟨b124, 0, none⟩)), (8, .int .i64 ((F_LeastFrame fp0 fp1).2)), (40, .bool true)]) ⟨rfl, rfl, rfl, rfl, rfl, rfl, rfl, trivial⟩; clear hE164
     refine p_tn ?_
     have hE166 := hE165.sub (L' := [(1, .pointer (some ⟨b2, 0, none⟩)), (4, .pointer (some ⟨b67, 0, none⟩)), (5, .int .i64 ((F_s_LeastFrame fp0 fp1).2)), (6, .pointer (some ⟨b93, 0, none⟩)), (7, .pointer (some ⟨b124, 0, none⟩)), (8, .int .i64 ((F_LeastFrame fp0 fp1).2)), (40, .bool true)]) ⟨rfl, rfl, rfl, rfl, rfl, rfl, rfl, trivial⟩
     have hS167 := (St.pick (Γ' := [.own 2 1 b114 ((((F_LeastFrame fp0 fp1).1).2).length) c115 (((F_LeastFrame fp0 fp1).1).2), .blk b124 #[.int .i64 (((F_LeastFrame fp0 fp1).1).1), .slice b114 ((((F_LeastFrame fp0 fp1).1).2).length) c115] 30, .own 2 1 b90 ((fp1).length) c91 fp1, .blk b93 #[.int .i64 fp0, .slice b90 ((fp1).length) c91] 30, .own 2 1 b58 ((((F_s_LeastFrame fp0 fp1).1).2).length) c59 (((F_s_LeastFrame fp0 fp1).1).2), .blk b67 #[.int .i64 (((F_s_LeastFrame fp0 fp1).1).1), .slice b58 ((((F_s_LeastFrame fp0 fp1).1).2).length) c59] 30, .own 2 1 b49 ((fp1).length) c50 fp1, .rd 1 fp1A fp1.length fp1C fp1, .blk b2 #[.int .i64 fp0, .slice fp1A fp1.length fp1C] 24]) hS147 [1, 0, 3, 2, 5, 4, 6, 8, 7] (by decide) rfl)
     exact ⟨(by rw [hb153]; exact hE166), hS167⟩
    ·
     have hE168 := hE152; (try rw [hb153] at hE168); clear hE152
     have ht169 := bn_f hb153
     have hp170 := of_decide_eq_true ht169
     refine q_step (v := .int .i64 ((F_LeastFrame fp0 fp1).2)) hE168 (y_move rfl) rfl rfl rfl ?_; intro a171 hE172; clear hE168
     refine q_step (v := .int .i64 ((F_s_LeastFrame fp0 fp1).2)) hE172 (y_move rfl) rfl rfl rfl ?_; intro a173 hE174; clear hE172
     refine q_step (v := .bool (!decide (((F_LeastFrame fp0 fp1).2) = ((F_s_LeastFrame fp0 fp1).2)))) hE174 (y_neq rfl rfl) rfl rfl rfl ?_; intro a175 hE176; clear hE174
     refine q_step (v := .bool (!decide (((F_LeastFrame fp0 fp1).2) = ((F_s_LeastFrame fp0 fp1).2)))) hE176 (y_pick (b := false) rfl rfl) rfl rfl rfl ?_; intro a177 hE178; clear hE176
     refine c_nil ?_
     have hE179 := hE178.sub (L' := [(1, .pointer (some ⟨b2, 0, none⟩)), (4, .pointer (some ⟨b67, 0, none⟩)), (5, .int .i64 ((F_s_LeastFrame fp0 fp1).2)), (6, .pointer (some ⟨b93, 0, none⟩)), (7, .pointer (some ⟨b124, 0, none⟩)), (8, .int .i64 ((F_LeastFrame fp0 fp1).2)), (40, .bool (!decide (((F_LeastFrame fp0 fp1).2) = ((F_s_LeastFrame fp0 fp1).2))))]) ⟨rfl, rfl, rfl, rfl, rfl, rfl, rfl, trivial⟩; clear hE178
     refine p_tn ?_
     have hE180 := hE179.sub (L' := [(1, .pointer (some ⟨b2, 0, none⟩)), (4, .pointer (some ⟨b67, 0, none⟩)), (5, .int .i64 ((F_s_LeastFrame fp0 fp1).2)), (6, .pointer (some ⟨b93, 0, none⟩)), (7, .pointer (some ⟨b124, 0, none⟩)), (8, .int .i64 ((F_LeastFrame fp0 fp1).2)), (40, .bool (!decide (((F_LeastFrame fp0 fp1).2) = ((F_s_LeastFrame fp0 fp1).2))))]) ⟨rfl, rfl, rfl, rfl, rfl, rfl, rfl, trivial⟩
     have hS181 := (St.pick (Γ' := [.own 2 1 b114 ((((F_LeastFrame fp0 fp1).1).2).length) c115 (((F_LeastFrame fp0 fp1).1).2), .blk b124 #[.int .i64 (((F_LeastFrame fp0 fp1).1).1), .slice b114 ((((F_LeastFrame fp0 fp1).1).2).length) c115] 30, .own 2 1 b90 ((fp1).length) c91 fp1, .blk b93 #[.int .i64 fp0, .slice b90 ((fp1).length) c91] 30, .own 2 1 b58 ((((F_s_LeastFrame fp0 fp1).1).2).length) c59 (((F_s_LeastFrame fp0 fp1).1).2), .blk b67 #[.int .i64 (((F_s_LeastFrame fp0 fp1).1).1), .slice b58 ((((F_s_LeastFrame fp0 fp1).1).2).length) c59] 30, .own 2 1 b49 ((fp1).length) c50 fp1, .rd 1 fp1A fp1.length fp1C fp1, .blk b2 #[.int .i64 fp0, .slice fp1A fp1.length fp1C] 24]) hS147 [1, 0, 3, 2, 5, 4, 6, 8, 7] (by decide) rfl)
     exact ⟨(by rw [hb153]; exact hE180), hS181⟩
   ·
    rintro a182 w183 ⟨hE184, hS185⟩; clear hE138 hS134
    refine c_cond hE184 rfl (fun ht187 => ?_) (fun ht187 => ?_)
    ·
     have hE188 := hE184; rw [ht187] at hE188; clear hE184
     refine c_seq ?_
     refine c_reg ?_
     refine q_step (v := .bool false) hE188 (y_assign rfl) rfl rfl rfl ?_; intro a189 hE190; clear hE188
     refine c_nil ?_
     have hE191 := hE190.sub (L' := [(2, .bool false)]) ⟨rfl, trivial⟩; clear hE190
     refine p_tn ?_
     refine wp_ret ?_
     refine p_tr ?_
     have hF : F_l_FnExactLeastFrame fp0 fp1 = false := by unfold F_l_FnExactLeastFrame; rw [ht187, ht32]; first | done | rfl
     refine c_ret1 hE191 rfl rfl ?_
     exact ⟨(by rw [hF]; first | done | (dsimp only; done) | rfl), hS185.ext⟩
    ·
     obtain ⟨ht192, ht193⟩ := bor_f ht187
     have ht194 := bn_f ht192
     have hp195 := of_decide_eq_true ht194
     have ht196 := bn_f ht193
     have hp197 := of_decide_eq_true ht196
     have hE198 := hE184; rw [ht187] at hE198; clear hE184
     refine wp_skip ?_
     refine p_tn ?_
     refine c_seq ?_
     refine c_seq ?_
     refine d_start (fun w w' => (fun w' => w'.heap[b93]? = some (.cells #[.int .i64 fp0, .slice b90 ((fp1).length) c91] 30 (0, 0)) ∧ w'.heap[b2]? = some (.cells #[.int .i64 fp0, .slice fp1A fp1.length fp1C] 24 (0, 0)) ∧ True) w → (fun w' => w'.heap[b93]? = some (.cells #[.int .i64 fp0, .slice b90 ((fp1).length) c91] 30 (0, 0)) ∧ w'.heap[b2]? = some (.cells #[.int .i64 fp0, .slice fp1A fp1.length fp1C] 24 (0, 0)) ∧ True) w') [0, 1] 5 (by kernel_rfl) rfl ?_
     intro w199 he200; have hS201 := St.go hS185 he200; clear hS185
     refine d_take (fun _ h => h) (fun _ _ h k => h k) (v := .agg #[.int .i64 fp0, .slice b90 ((fp1).length) c91]) 0 rfl hE198 (S := fun w' => w'.heap[b93]? = some (.cells #[.int .i64 fp0, .slice b90 ((fp1).length) c91] 30 (0, 0)) ∧ w'.heap[b2]? = some (.cells #[.int .i64 fp0, .slice fp1A fp1.length fp1C] 24 (0, 0)) ∧ True) ⟨(St.row (i := 3) hS201 rfl _ (Ext.refl _)), (St.row (i := 8) hS201 rfl _ (Ext.refl _)), trivial⟩ (y_loadS Try.underlying30 rfl (by kernel_rfl) rfl (fun _ h => h.1)) rfl rfl (by kernel_rfl) (by kernel_rfl) (by kernel_rfl) (by kernel_rfl) rfl rfl (fun _ _ _ h => h) ?_; intro a202 hE203; clear hE198
     refine d_take (fun _ h => h) (fun _ _ h k => h k) (v := .agg #[.int .i64 fp0, .slice fp1A fp1.length fp1C]) 1 rfl hE203 (S := fun w' => w'.heap[b93]? = some (.cells #[.int .i64 fp0, .slice b90 ((fp1).length) c91] 30 (0, 0)) ∧ w'.heap[b2]? = some (.cells #[.int .i64 fp0, .slice fp1A fp1.length fp1C] 24 (0, 0)) ∧ True) ⟨(St.row (i := 3) hS201 rfl _ (Ext.refl _)), (St.row (i := 8) hS201 rfl _ (Ext.refl _)), trivial⟩ (y_loadS Try.underlying24 rfl (by kernel_rfl) rfl (fun _ h => h.2.1)) rfl rfl (by kernel_rfl) (by kernel_rfl) (by kernel_rfl) (by kernel_rfl) rfl rfl (fun _ _ _ h => h) ?_; intro a204 hE205; clear hE203
     refine d_only 2 (by kernel_rfl) rfl hE205 rfl (l_call (f := 30) (argv := [.agg #[.int .i64 fp0, .slice fp1A fp1.length fp1C]]) hE205 (fun _ => cf_l_toFrame _ _) rfl rfl (d_l_toFrame fp0 fp1A fp1.length fp1C fp1 w199 (St.rdR (i := 7) hS201 rfl) (by first | omega | (simp only [marked_len]; omega) | (simp only [marked_len] at *; omega))) ?_)
     rintro _ w207 ⟨b212, c213, rfl, ho214, he211⟩ a208 hE209; clear hE205
     have hS210 := St.own hS201 he211 ho214; clear hS201
     refine ⟨fun _ _ => ⟨(St.row (i := 4) hS210 rfl _ (Ext.refl _)), (St.row (i := 9) hS210 rfl _ (Ext.refl _)), trivial⟩, ?_⟩
     refine d_only 3 (by kernel_rfl) rfl hE209 rfl (l_call (f := 32) (argv := [.agg #[.int .i64 fp0, .slice b90 ((fp1).length) c91], .agg #[.int .i64 fp0, .slice b212 ((fp1).length) c213]]) hE209 (fun _ => cf_l_eqFrame _ _) rfl rfl (d_l_eqFrame fp0 b90 ((fp1).length) c91 fp1 fp0 b212 ((fp1).length) c213 fp1 w207 (St.rdO (i := 3) hS210 rfl) (St.rdO (i := 0) hS210 rfl)) ?_)
     rintro _ w216 ⟨rfl, he220⟩ a217 hE218; clear hE209
     have hS219 := St.go hS210 he220; clear hS210
     refine ⟨fun h => Bool.noConfusion (h.symm.trans (show exm _ _ _ = true by kernel_rfl)), ?_⟩
     refine d_pure (fun _ h => h) (v := .bool (!(decide ((fp0, fp1) = (fp0, fp1))))) 4 rfl hE218 (y_not rfl) rfl (by kernel_rfl) (by kernel_rfl) (by kernel_rfl) rfl rfl (fun _ _ _ h => h) ?_; intro a221 hE222; clear hE218
     refine d_done (by kernel_rfl) ?_
     have hE223 := hE222.sub (L' := [(1, .pointer (some ⟨b2, 0, none⟩)), (4, .pointer (some ⟨b67, 0, none⟩)), (5, .int .i64 ((F_s_LeastFrame fp0 fp1).2)), (6, .pointer (some ⟨b93, 0, none⟩)), (7, .pointer (some ⟨b124, 0, none⟩)), (8, .int .i64 ((F_LeastFrame fp0 fp1).2)), (45, .bool (!(decide ((fp0, fp1) = (fp0, fp1)))))]) ⟨rfl, rfl, rfl, rfl, rfl, rfl, rfl, trivial⟩; clear hE222
     refine p_tn ?_
     refine c_cond hE223 rfl (fun ht224 => ?_) (fun ht224 => ?_)
     ·
      have ht225 := bn_t ht224
      have hp226 := of_decide_eq_false ht225
      have hE227 := hE223; rw [ht224] at hE227; clear hE223
      refine c_seq ?_
      refine c_reg ?_
      refine q_step (v := .bool false) hE227 (y_assign rfl) rfl rfl rfl ?_; intro a228 hE229; clear hE227
      refine c_nil ?_
      have hE230 := hE229.sub (L' := [(2, .bool false)]) ⟨rfl, trivial⟩; clear hE229
      refine p_tn ?_
      refine wp_ret ?_
      refine p_tr ?_
      have hF : F_l_FnExactLeastFrame fp0 fp1 = false := by unfold F_l_FnExactLeastFrame; rw [ht224, ht187, ht32]; first | done | rfl
      refine c_ret1 hE230 rfl rfl ?_
      exact ⟨(by rw [hF]; first | done | (dsimp only; done) | rfl), hS219.ext⟩
     ·
      have ht231 := bn_f ht224
      have hp232 := of_decide_eq_true ht231
      have hE233 := hE223; rw [ht224] at hE233; clear hE223
      refine wp_skip ?_
      refine p_tn ?_
      refine c_seq ?_
      refine c_reg ?_
      refine q_step (v := .int .i64 1) hE233 (y_assign rfl) rfl rfl rfl ?_; intro a234 hE235; clear hE233
      refine c_nil ?_
      have hE236 := hE235.sub (L' := [(1, .pointer (some ⟨b2, 0, none⟩)), (4, .pointer (some ⟨b67, 0, none⟩)), (5, .int .i64 ((F_s_LeastFrame fp0 fp1).2)), (6, .pointer (some ⟨b93, 0, none⟩)), (7, .pointer (some ⟨b124, 0, none⟩)), (8, .int .i64 ((F_LeastFrame fp0 fp1).2)), (9, .int .i64 1)]) ⟨rfl, rfl, rfl, rfl, rfl, rfl, rfl, trivial⟩; clear hE235
      refine p_tn ?_
      refine c_seq ?_
      refine c_reg ?_
      refine q_step (v := .agg #[.int .i64 fp0, .slice b90 ((fp1).length) c91]) hE236 (y_loadS Try.underlying30 rfl (by kernel_rfl) rfl (St.row (i := 4) hS219 rfl)) rfl rfl rfl ?_; intro a237 hE238; clear hE236
      refine q_step (v := .int .i64 1) hE238 (y_move rfl) rfl rfl rfl ?_; intro a239 hE240; clear hE238
      have hS247 := (St.pick (Γ' := [.own 2 1 b90 ((fp1).length) c91 fp1, .own 2 1 b212 ((fp1).length) c213 fp1, .own 2 1 b114 ((((F_LeastFrame fp0 fp1).1).2).length) c115 (((F_LeastFrame fp0 fp1).1).2), .blk b124 #[.int .i64 (((F_LeastFrame fp0 fp1).1).1), .slice b114 ((((F_LeastFrame fp0 fp1).1).2).length) c115] 30, .blk b93 #[.int .i64 fp0, .slice b90 ((fp1).length) c91] 30, .own 2 1 b58 ((((F_s_LeastFrame fp0 fp1).1).2).length) c59 (((F_s_LeastFrame fp0 fp1).1).2), .blk b67 #[.int .i64 (((F_s_LeastFrame fp0 fp1).1).1), .slice b58 ((((F_s_LeastFrame fp0 fp1).1).2).length) c59] 30, .own 2 1 b49 ((fp1).length) c50 fp1, .rd 1 fp1A fp1.length fp1C fp1, .blk b2 #[.int .i64 fp0, .slice fp1A fp1.length fp1C] 24]) hS219 [3, 0, 1, 2, 4, 5, 6, 7, 8, 9] (by decide) rfl); clear hS219
      refine l_step hE240 rfl (l_call (f := 33) (argv := [.agg #[.int .i64 fp0, .slice b90 ((fp1).length) c91], .int .i64 1]) hE240 (fun _ => cf_l_markFrame _ _) rfl rfl (d_l_markFrame fp0 b90 ((fp1).length) c91 fp1 1 w216 w [.own 2 1 b212 ((fp1).length) c213 fp1, .own 2 1 b114 ((((F_LeastFrame fp0 fp1).1).2).length) c115 (((F_LeastFrame fp0 fp1).1).2), .blk b124 #[.int .i64 (((F_LeastFrame fp0 fp1).1).1), .slice b114 ((((F_LeastFrame fp0 fp1).1).2).length) c115] 30, .blk b93 #[.int .i64 fp0, .slice b90 ((fp1).length) c91] 30, .own 2 1 b58 ((((F_s_LeastFrame fp0 fp1).1).2).length) c59 (((F_s_LeastFrame fp0 fp1).1).2), .blk b67 #[.int .i64 (((F_s_LeastFrame fp0 fp1).1).1), .slice b58 ((((F_s_LeastFrame fp0 fp1).1).2).length) c59] 30, .own 2 1 b49 ((fp1).length) c50 fp1, .rd 1 fp1A fp1.length fp1C fp1, .blk b2 #[.int .i64 fp0, .slice fp1A fp1.length fp1C] 24] hS247 (by first | omega | (simp only [marked_len]; omega) | (simp only [marked_len] at *; omega)) (by first | omega | (simp only [marked_len]; omega) | (simp only [marked_len] at *; omega)) (by first | omega | (simp only [marked_len]; omega) | (simp only [marked_len] at *; omega))) ?_)
      rintro _ w242 ⟨rfl, hS245⟩ a243 hE244; clear hE240 hS247
      refine q_step (v := .int .i64 (1 + (fp1.length : Int))) hE244 (y_assign rfl) rfl rfl rfl ?_; intro a248 hE249; clear hE244
      refine c_nil ?_
      have hE250 := hE249.sub (L' := [(1, .pointer (some ⟨b2, 0, none⟩)), (4, .pointer (some ⟨b67, 0, none⟩)), (5, .int .i64 ((F_s_LeastFrame fp0 fp1).2)), (7, .pointer (some ⟨b124, 0, none⟩)), (8, .int .i64 ((F_LeastFrame fp0 fp1).2)), (9, .int .i64 (1 + (fp1.length : Int)))]) ⟨rfl, rfl, rfl, rfl, rfl, rfl, trivial⟩; clear hE249
      refine p_tn ?_
      refine c_seq ?_
      refine c_cut (fun a' w' => E a' 96 [(1, .pointer (some ⟨b2, 0, none⟩)), (4, .pointer (some ⟨b67, 0, none⟩)), (5, .int .i64 ((F_s_LeastFrame fp0 fp1).2)), (7, .pointer (some ⟨b124, 0, none⟩)), (61, .bool ((decide ((1 + (fp1.length : Int)) < 0)) || ((!(decide (((((F_LeastFrame fp0 fp1).1).1), (((F_LeastFrame fp0 fp1).1).2)) = ((((F_s_LeastFrame fp0 fp1).1).1), (((F_s_LeastFrame fp0 fp1).1).2))))) || (!decide (((F_LeastFrame fp0 fp1).2) = ((F_s_LeastFrame fp0 fp1).2))))))] ∧ St w w' [.own 2 1 b90 ((fp1).length) c91 (marked fp1.length 1), .own 2 1 b212 ((fp1).length) c213 fp1, .own 2 1 b114 ((((F_LeastFrame fp0 fp1).1).2).length) c115 (((F_LeastFrame fp0 fp1).1).2), .blk b124 #[.int .i64 (((F_LeastFrame fp0 fp1).1).1), .slice b114 ((((F_LeastFrame fp0 fp1).1).2).length) c115] 30, .blk b93 #[.int .i64 fp0, .slice b90 ((fp1).length) c91] 30, .own 2 1 b58 ((((F_s_LeastFrame fp0 fp1).1).2).length) c59 (((F_s_LeastFrame fp0 fp1).1).2), .blk b67 #[.int .i64 (((F_s_LeastFrame fp0 fp1).1).1), .slice b58 ((((F_s_LeastFrame fp0 fp1).1).2).length) c59] 30, .own 2 1 b49 ((fp1).length) c50 fp1, .rd 1 fp1A fp1.length fp1C fp1, .blk b2 #[.int .i64 fp0, .slice fp1A fp1.length fp1C] 24]) ?_ ?_
      ·
       refine c_reg ?_
       refine q_step (v := .int .i64 (1 + (fp1.length : Int))) hE250 (y_move rfl) rfl rfl rfl ?_; intro a251 hE252; clear hE250
       refine q_step (v := .bool (decide ((1 + (fp1.length : Int)) < 0))) hE252 (y_lss rfl rfl) rfl rfl rfl ?_; intro a253 hE254; clear hE252
       refine q_step (v := .bool (decide ((1 + (fp1.length : Int)) < 0))) hE254 (y_move rfl) rfl rfl rfl ?_; intro a255 hE256; clear hE254
       rcases Bool.eq_false_or_eq_true (decide ((1 + (fp1.length : Int)) < 0)) with hb257 | hb257
       ·
        have hE258 := hE256; (try rw [hb257] at hE258); clear hE256
        have hp259 := of_decide_eq_true hb257
        refine q_skip hE258 rfl rfl rfl ?_; intro a260 hE261; clear hE258
        refine q_skip hE261 rfl rfl rfl ?_; intro a262 hE263; clear hE261
        refine q_skip hE263 rfl rfl rfl ?_; intro a264 hE265; clear hE263
        refine q_skip hE265 rfl rfl rfl ?_; intro a266 hE267; clear hE265
        refine q_step (v := .bool true) hE267 (y_pick (b := true) rfl rfl) rfl rfl rfl ?_; intro a268 hE269; clear hE267
        refine q_step (v := .bool true) hE269 (y_move rfl) rfl rfl rfl ?_; intro a270 hE271; clear hE269
        refine q_skip hE271 rfl rfl rfl ?_; intro a272 hE273; clear hE271
        refine q_skip hE273 rfl rfl rfl ?_; intro a274 hE275; clear hE273
        refine q_skip hE275 rfl rfl rfl ?_; intro a276 hE277; clear hE275
        refine q_step (v := .bool true) hE277 (y_pick (b := true) rfl rfl) rfl rfl rfl ?_; intro a278 hE279; clear hE277
        refine c_nil ?_
        have hE280 := hE279.sub (L' := [(1, .pointer (some ⟨b2, 0, none⟩)), (4, .pointer (some ⟨b67, 0, none⟩)), (5, .int .i64 ((F_s_LeastFrame fp0 fp1).2)), (7, .pointer (some ⟨b124, 0, none⟩)), (61, .bool true)]) ⟨rfl, rfl, rfl, rfl, rfl, trivial⟩; clear hE279
        refine p_tn ?_
        have hE281 := hE280.sub (L' := [(1, .pointer (some ⟨b2, 0, none⟩)), (4, .pointer (some ⟨b67, 0, none⟩)), (5, .int .i64 ((F_s_LeastFrame fp0 fp1).2)), (7, .pointer (some ⟨b124, 0, none⟩)), (61, .bool true)]) ⟨rfl, rfl, rfl, rfl, rfl, trivial⟩
        have hS282 := (St.pick (Γ' := [.own 2 1 b90 ((fp1).length) c91 (marked fp1.length 1), .own 2 1 b212 ((fp1).length) c213 fp1, .own 2 1 b114 ((((F_LeastFrame fp0 fp1).1).2).length) c115 (((F_LeastFrame fp0 fp1).1).2), .blk b124 #[.int .i64 (((F_LeastFrame fp0 fp1).1).1), .slice b114 ((((F_LeastFrame fp0 fp1).1).2).length) c115] 30, .blk b93 #[.int .i64 fp0, .slice b90 ((fp1).length) c91] 30, .own 2 1 b58 ((((F_s_LeastFrame fp0 fp1).1).2).length) c59 (((F_s_LeastFrame fp0 fp1).1).2), .blk b67 #[.int .i64 (((F_s_LeastFrame fp0 fp1).1).1), .slice b58 ((((F_s_LeastFrame fp0 fp1).1).2).length) c59] 30, .own 2 1 b49 ((fp1).length) c50 fp1, .rd 1 fp1A fp1.length fp1C fp1, .blk b2 #[.int .i64 fp0, .slice fp1A fp1.length fp1C] 24]) hS245 [0, 1, 2, 3, 4, 5, 6, 7, 8, 9] (by decide) rfl)
        exact ⟨(by rw [hb257]; exact hE281), hS282⟩
       ·
        have hE283 := hE256; (try rw [hb257] at hE283); clear hE256
        have hp284 := of_decide_eq_false hb257
        refine q_step (v := .agg #[.int .i64 (((F_LeastFrame fp0 fp1).1).1), .slice b114 ((((F_LeastFrame fp0 fp1).1).2).length) c115]) hE283 (y_loadS Try.underlying30 rfl (by kernel_rfl) rfl (St.row (i := 3) hS245 rfl)) rfl rfl rfl ?_; intro a285 hE286; clear hE283
        refine q_step (v := .agg #[.int .i64 (((F_s_LeastFrame fp0 fp1).1).1), .slice b58 ((((F_s_LeastFrame fp0 fp1).1).2).length) c59]) hE286 (y_loadS Try.underlying30 rfl (by kernel_rfl) rfl (St.row (i := 6) hS245 rfl)) rfl rfl rfl ?_; intro a287 hE288; clear hE286
        refine l_step hE288 rfl (l_call (f := 32) (argv := [.agg #[.int .i64 (((F_LeastFrame fp0 fp1).1).1), .slice b114 ((((F_LeastFrame fp0 fp1).1).2).length) c115], .agg #[.int .i64 (((F_s_LeastFrame fp0 fp1).1).1), .slice b58 ((((F_s_LeastFrame fp0 fp1).1).2).length) c59]]) hE288 (fun _ => cf_l_eqFrame _ _) rfl rfl (d_l_eqFrame (((F_LeastFrame fp0 fp1).1).1) b114 ((((F_LeastFrame fp0 fp1).1).2).length) c115 (((F_LeastFrame fp0 fp1).1).2) (((F_s_LeastFrame fp0 fp1).1).1) b58 ((((F_s_LeastFrame fp0 fp1).1).2).length) c59 (((F_s_LeastFrame fp0 fp1).1).2) w242 (St.rdO (i := 2) hS245 rfl) (St.rdO (i := 5) hS245 rfl)) ?_)
        rintro _ w290 ⟨rfl, he294⟩ a291 hE292; clear hE288
        have hS293 := St.go hS245 he294; clear hS245
        refine q_step (v := .bool (!(decide (((((F_LeastFrame fp0 fp1).1).1), (((F_LeastFrame fp0 fp1).1).2)) = ((((F_s_LeastFrame fp0 fp1).1).1), (((F_s_LeastFrame fp0 fp1).1).2)))))) hE292 (y_not rfl) rfl rfl rfl ?_; intro a295 hE296; clear hE292
        refine q_step (v := .bool (!(decide (((((F_LeastFrame fp0 fp1).1).1), (((F_LeastFrame fp0 fp1).1).2)) = ((((F_s_LeastFrame fp0 fp1).1).1), (((F_s_LeastFrame fp0 fp1).1).2)))))) hE296 (y_pick (b := false) rfl rfl) rfl rfl rfl ?_; intro a297 hE298; clear hE296
        refine q_step (v := .bool (!(decide (((((F_LeastFrame fp0 fp1).1).1), (((F_LeastFrame fp0 fp1).1).2)) = ((((F_s_LeastFrame fp0 fp1).1).1), (((F_s_LeastFrame fp0 fp1).1).2)))))) hE298 (y_move rfl) rfl rfl rfl ?_; intro a299 hE300; clear hE298
        rcases Bool.eq_false_or_eq_true (!(decide (((((F_LeastFrame fp0 fp1).1).1), (((F_LeastFrame fp0 fp1).1).2)) = ((((F_s_LeastFrame fp0 fp1).1).1), (((F_s_LeastFrame fp0 fp1).1).2))))) with hb301 | hb301
        ·
         have hE302 := hE300; (try rw [hb301] at hE302); clear hE300
         have ht303 := bn_t hb301
         have hp304 := of_decide_eq_false ht303
         refine q_skip hE302 rfl rfl rfl ?_; intro a305 hE306; clear hE302
         refine q_skip hE306 rfl rfl rfl ?_; intro a307 hE308; clear hE306
         refine q_skip hE308 rfl rfl rfl ?_; intro a309 hE310; clear hE308
         refine q_step (v := .bool true) hE310 (y_pick (b := true) rfl rfl) rfl rfl rfl ?_; intro a311 hE312; clear hE310
         refine c_nil ?_
         have hE313 := hE312.sub (L' := [(1, .pointer (some ⟨b2, 0, none⟩)), (4, .pointer (some ⟨b67, 0, none⟩)), (5, .int .i64 ((F_s_LeastFrame fp0 fp1).2)), (7, .pointer (some ⟨b124, 0, none⟩)), (61, .bool true)]) ⟨rfl, rfl, rfl, rfl, rfl, trivial⟩; clear hE312
         refine p_tn ?_
         have hE314 := hE313.sub (L' := [(1, .pointer (some ⟨b2, 0, none⟩)), (4, .pointer (some ⟨b67, 0, none⟩)), (5, .int .i64 ((F_s_LeastFrame fp0 fp1).2)), (7, .pointer (some ⟨b124, 0, none⟩)), (61, .bool true)]) ⟨rfl, rfl, rfl, rfl, rfl, trivial⟩
         have hS315 := (St.pick (Γ' := [.own 2 1 b90 ((fp1).length) c91 (marked fp1.length 1), .own 2 1 b212 ((fp1).length) c213 fp1, .own 2 1 b114 ((((F_LeastFrame fp0 fp1).1).2).length) c115 (((F_LeastFrame fp0 fp1).1).2), .blk b124 #[.int .i64 (((F_LeastFrame fp0 fp1).1).1), .slice b114 ((((F_LeastFrame fp0 fp1).1).2).length) c115] 30, .blk b93 #[.int .i64 fp0, .slice b90 ((fp1).length) c91] 30, .own 2 1 b58 ((((F_s_LeastFrame fp0 fp1).1).2).length) c59 (((F_s_LeastFrame fp0 fp1).1).2), .blk b67 #[.int .i64 (((F_s_LeastFrame fp0 fp1).1).1), .slice b58 ((((F_s_LeastFrame fp0 fp1).1).2).length) c59] 30, .own 2 1 b49 ((fp1).length) c50 fp1, .rd 1 fp1A fp1.length fp1C fp1, .blk b2 #[.int .i64 fp0, .slice fp1A fp1.length fp1C] 24]) hS293 [0, 1, 2, 3, 4, 5, 6, 7, 8, 9] (by decide) rfl)
         exact ⟨(by rw [hb301, hb257]; exact hE314), hS315⟩
        ·
         have hE316 := hE300; (try rw [hb301] at hE316); clear hE300
         have ht317 := bn_f hb301
         have hp318 := of_decide_eq_true ht317
         refine q_step (v := .int .i64 ((F_LeastFrame fp0 fp1).2)) hE316 (y_move rfl) rfl rfl rfl ?_; intro a319 hE320; clear hE316
         refine q_step (v := .int .i64 ((F_s_LeastFrame fp0 fp1).2)) hE320 (y_move rfl) rfl rfl rfl ?_; intro a321 hE322; clear hE320
         refine q_step (v := .bool (!decide (((F_LeastFrame fp0 fp1).2) = ((F_s_LeastFrame fp0 fp1).2)))) hE322 (y_neq rfl rfl) rfl rfl rfl ?_; intro a323 hE324; clear hE322
         refine q_step (v := .bool (!decide (((F_LeastFrame fp0 fp1).2) = ((F_s_LeastFrame fp0 fp1).2)))) hE324 (y_pick (b := false) rfl rfl) rfl rfl rfl ?_; intro a325 hE326; clear hE324
         refine c_nil ?_
         have hE327 := hE326.sub (L' := [(1, .pointer (some ⟨b2, 0, none⟩)), (4, .pointer (some ⟨b67, 0, none⟩)), (5, .int .i64 ((F_s_LeastFrame fp0 fp1).2)), (7, .pointer (some ⟨b124, 0, none⟩)), (61, .bool (!decide (((F_LeastFrame fp0 fp1).2) = ((F_s_LeastFrame fp0 fp1).2))))]) ⟨rfl, rfl, rfl, rfl, rfl, trivial⟩; clear hE326
         refine p_tn ?_
         have hE328 := hE327.sub (L' := [(1, .pointer (some ⟨b2, 0, none⟩)), (4, .pointer (some ⟨b67, 0, none⟩)), (5, .int .i64 ((F_s_LeastFrame fp0 fp1).2)), (7, .pointer (some ⟨b124, 0, none⟩)), (61, .bool (!decide (((F_LeastFrame fp0 fp1).2) = ((F_s_LeastFrame fp0 fp1).2))))]) ⟨rfl, rfl, rfl, rfl, rfl, trivial⟩
         have hS329 := (St.pick (Γ' := [.own 2 1 b90 ((fp1).length) c91 (marked fp1.length 1), .own 2 1 b212 ((fp1).length) c213 fp1, .own 2 1 b114 ((((F_LeastFrame fp0 fp1).1).2).length) c115 (((F_LeastFrame fp0 fp1).1).2), .blk b124 #[.int .i64 (((F_LeastFrame fp0 fp1).1).1), .slice b114 ((((F_LeastFrame fp0 fp1).1).2).length) c115] 30, .blk b93 #[.int .i64 fp0, .slice b90 ((fp1).length) c91] 30, .own 2 1 b58 ((((F_s_LeastFrame fp0 fp1).1).2).length) c59 (((F_s_LeastFrame fp0 fp1).1).2), .blk b67 #[.int .i64 (((F_s_LeastFrame fp0 fp1).1).1), .slice b58 ((((F_s_LeastFrame fp0 fp1).1).2).length) c59] 30, .own 2 1 b49 ((fp1).length) c50 fp1, .rd 1 fp1A fp1.length fp1C fp1, .blk b2 #[.int .i64 fp0, .slice fp1A fp1.length fp1C] 24]) hS293 [0, 1, 2, 3, 4, 5, 6, 7, 8, 9] (by decide) rfl)
         exact ⟨(by rw [hb301, hb257]; exact hE328), hS329⟩
      ·
       rintro a330 w331 ⟨hE332, hS333⟩; clear hE250 hS245
       refine c_cond hE332 rfl (fun ht335 => ?_) (fun ht335 => ?_)
       ·
        have hE336 := hE332; rw [ht335] at hE336; clear hE332
        refine c_seq ?_
        refine c_reg ?_
        refine q_step (v := .bool false) hE336 (y_assign rfl) rfl rfl rfl ?_; intro a337 hE338; clear hE336
        refine c_nil ?_
        have hE339 := hE338.sub (L' := [(2, .bool false)]) ⟨rfl, trivial⟩; clear hE338
        refine p_tn ?_
        refine wp_ret ?_
        refine p_tr ?_
        have hF : F_l_FnExactLeastFrame fp0 fp1 = false := by unfold F_l_FnExactLeastFrame; rw [ht335, ht224, ht187, ht32]; first | done | rfl
        refine c_ret1 hE339 rfl rfl ?_
        exact ⟨(by rw [hF]; first | done | (dsimp only; done) | rfl), hS333.ext⟩
       ·
        obtain ⟨ht340, ht341⟩ := bor_f ht335
        have hp342 := of_decide_eq_false ht340
        obtain ⟨ht343, ht344⟩ := bor_f ht341
        have ht345 := bn_f ht343
        have hp346 := of_decide_eq_true ht345
        have ht347 := bn_f ht344
        have hp348 := of_decide_eq_true ht347
        have hE349 := hE332; rw [ht335] at hE349; clear hE332
        refine wp_skip ?_
        refine p_tn ?_
        refine c_seq ?_
        refine c_reg ?_
        refine q_step (v := .int .i64 1) hE349 (y_assign rfl) rfl rfl rfl ?_; intro a350 hE351; clear hE349
        refine c_nil ?_
        have hE352 := hE351.sub (L' := [(1, .pointer (some ⟨b2, 0, none⟩)), (4, .pointer (some ⟨b67, 0, none⟩)), (5, .int .i64 ((F_s_LeastFrame fp0 fp1).2)), (7, .pointer (some ⟨b124, 0, none⟩)), (10, .int .i64 1)]) ⟨rfl, rfl, rfl, rfl, rfl, trivial⟩; clear hE351
        refine p_tn ?_
        refine c_seq ?_
        refine c_reg ?_
        refine q_step (v := .agg #[.int .i64 (((F_LeastFrame fp0 fp1).1).1), .slice b114 ((((F_LeastFrame fp0 fp1).1).2).length) c115]) hE352 (y_loadS Try.underlying30 rfl (by kernel_rfl) rfl (St.row (i := 3) hS333 rfl)) rfl rfl rfl ?_; intro a353 hE354; clear hE352
        refine q_step (v := .int .i64 1) hE354 (y_move rfl) rfl rfl rfl ?_; intro a355 hE356; clear hE354
        have hS363 := (St.pick (Γ' := [.own 2 1 b114 ((((F_LeastFrame fp0 fp1).1).2).length) c115 (((F_LeastFrame fp0 fp1).1).2), .own 2 1 b90 ((fp1).length) c91 (marked fp1.length 1), .own 2 1 b212 ((fp1).length) c213 fp1, .blk b124 #[.int .i64 (((F_LeastFrame fp0 fp1).1).1), .slice b114 ((((F_LeastFrame fp0 fp1).1).2).length) c115] 30, .blk b93 #[.int .i64 fp0, .slice b90 ((fp1).length) c91] 30, .own 2 1 b58 ((((F_s_LeastFrame fp0 fp1).1).2).length) c59 (((F_s_LeastFrame fp0 fp1).1).2), .blk b67 #[.int .i64 (((F_s_LeastFrame fp0 fp1).1).1), .slice b58 ((((F_s_LeastFrame fp0 fp1).1).2).length) c59] 30, .own 2 1 b49 ((fp1).length) c50 fp1, .rd 1 fp1A fp1.length fp1C fp1, .blk b2 #[.int .i64 fp0, .slice fp1A fp1.length fp1C] 24]) hS333 [2, 0, 1, 3, 4, 5, 6, 7, 8, 9] (by decide) rfl); clear hS333
        refine l_step hE356 rfl (l_call (f := 33) (argv := [.agg #[.int .i64 (((F_LeastFrame fp0 fp1).1).1), .slice b114 ((((F_LeastFrame fp0 fp1).1).2).length) c115], .int .i64 1]) hE356 (fun _ => cf_l_markFrame _ _) rfl rfl (d_l_markFrame (((F_LeastFrame fp0 fp1).1).1) b114 ((((F_LeastFrame fp0 fp1).1).2).length) c115 (((F_LeastFrame fp0 fp1).1).2) 1 w331 w [.own 2 1 b90 ((fp1).length) c91 (marked fp1.length 1), .own 2 1 b212 ((fp1).length) c213 fp1, .blk b124 #[.int .i64 (((F_LeastFrame fp0 fp1).1).1), .slice b114 ((((F_LeastFrame fp0 fp1).1).2).length) c115] 30, .blk b93 #[.int .i64 fp0, .slice b90 ((fp1).length) c91] 30, .own 2 1 b58 ((((F_s_LeastFrame fp0 fp1).1).2).length) c59 (((F_s_LeastFrame fp0 fp1).1).2), .blk b67 #[.int .i64 (((F_s_LeastFrame fp0 fp1).1).1), .slice b58 ((((F_s_LeastFrame fp0 fp1).1).2).length) c59] 30, .own 2 1 b49 ((fp1).length) c50 fp1, .rd 1 fp1A fp1.length fp1C fp1, .blk b2 #[.int .i64 fp0, .slice fp1A fp1.length fp1C] 24] hS363 (by first | omega | (simp only [marked_len]; omega) | (simp only [marked_len] at *; omega)) (by first | omega | (simp only [marked_len]; omega) | (simp only [marked_len] at *; omega)) (by first | omega | (simp only [marked_len]; omega) | (simp only [marked_len] at *; omega))) ?_)
        rintro _ w358 ⟨rfl, hS361⟩ a359 hE360; clear hE356 hS363
        refine q_step (v := .int .i64 (1 + ((((F_LeastFrame fp0 fp1).1).2).length : Int))) hE360 (y_assign rfl) rfl rfl rfl ?_; intro a364 hE365; clear hE360
        refine c_nil ?_
        have hE366 := hE365.sub (L' := [(1, .pointer (some ⟨b2, 0, none⟩)), (4, .pointer (some ⟨b67, 0, none⟩)), (5, .int .i64 ((F_s_LeastFrame fp0 fp1).2)), (7, .pointer (some ⟨b124, 0, none⟩)), (10, .int .i64 (1 + ((((F_LeastFrame fp0 fp1).1).2).length : Int)))]) ⟨rfl, rfl, rfl, rfl, rfl, trivial⟩; clear hE365
        refine p_tn ?_
        refine c_seq ?_
        refine c_reg ?_
        refine q_step (v := .int .i64 1) hE366 (y_assign rfl) rfl rfl rfl ?_; intro a367 hE368; clear hE366
        refine c_nil ?_
        have hE369 := hE368.sub (L' := [(1, .pointer (some ⟨b2, 0, none⟩)), (4, .pointer (some ⟨b67, 0, none⟩)), (5, .int .i64 ((F_s_LeastFrame fp0 fp1).2)), (7, .pointer (some ⟨b124, 0, none⟩)), (10, .int .i64 (1 + ((((F_LeastFrame fp0 fp1).1).2).length : Int))), (11, .int .i64 1)]) ⟨rfl, rfl, rfl, rfl, rfl, rfl, trivial⟩; clear hE368
        refine p_tn ?_
        refine c_seq ?_
        refine c_reg ?_
        refine q_step (v := .agg #[.int .i64 (((F_LeastFrame fp0 fp1).1).1), .slice b114 ((((F_LeastFrame fp0 fp1).1).2).length) c115]) hE369 (y_loadS Try.underlying30 rfl (by kernel_rfl) rfl (St.row (i := 3) hS361 rfl)) rfl rfl rfl ?_; intro a370 hE371; clear hE369
        refine q_step (v := .int .i64 1) hE371 (y_move rfl) rfl rfl rfl ?_; intro a372 hE373; clear hE371
        refine l_step hE373 rfl (l_call (f := 43) (argv := [.agg #[.int .i64 (((F_LeastFrame fp0 fp1).1).1), .slice b114 ((((F_LeastFrame fp0 fp1).1).2).length) c115], .int .i64 1]) hE373 (fun _ => cf_l_heldFrame _ _) rfl rfl (c_l_heldFrame (((F_LeastFrame fp0 fp1).1).1) b114 ((((F_LeastFrame fp0 fp1).1).2).length) c115 (marked (((F_LeastFrame fp0 fp1).1).2).length 1) 1 w358 (St.rdO (i := 0) hS361 rfl) (by first | omega | (simp only [marked_len]; omega) | (simp only [marked_len] at *; omega)) (by first | omega | (simp only [marked_len]; omega) | (simp only [marked_len] at *; omega)) (by first | omega | (simp only [marked_len]; omega) | (simp only [marked_len] at *; omega))) ?_)
        rintro _ w375 ⟨rfl, he379⟩ a376 hE377; clear hE373
        have hf380 := heldFrame_le (((F_LeastFrame fp0 fp1).1).1) (marked (((F_LeastFrame fp0 fp1).1).2).length 1) 1
        have hS378 := St.go hS361 he379; clear hS361
        refine q_step (v := .int .i64 (F_l_heldFrame (((F_LeastFrame fp0 fp1).1).1) (marked (((F_LeastFrame fp0 fp1).1).2).length 1) 1)) hE377 (y_assign rfl) rfl rfl rfl ?_; intro a381 hE382; clear hE377
        refine c_nil ?_
        have hE383 := hE382.sub (L' := [(1, .pointer (some ⟨b2, 0, none⟩)), (4, .pointer (some ⟨b67, 0, none⟩)), (5, .int .i64 ((F_s_LeastFrame fp0 fp1).2)), (7, .pointer (some ⟨b124, 0, none⟩)), (10, .int .i64 (1 + ((((F_LeastFrame fp0 fp1).1).2).length : Int))), (11, .int .i64 (F_l_heldFrame (((F_LeastFrame fp0 fp1).1).1) (marked (((F_LeastFrame fp0 fp1).1).2).length 1) 1))]) ⟨rfl, rfl, rfl, rfl, rfl, rfl, trivial⟩; clear hE382
        refine p_tn ?_
        refine c_seq ?_
        refine c_seq ?_
        refine c_reg ?_
        refine q_step (v := .int .i64 (F_l_heldFrame (((F_LeastFrame fp0 fp1).1).1) (marked (((F_LeastFrame fp0 fp1).1).2).length 1) 1)) hE383 (y_move rfl) rfl rfl rfl ?_; intro a384 hE385; clear hE383
        refine q_step (v := .bool (decide ((F_l_heldFrame (((F_LeastFrame fp0 fp1).1).1) (marked (((F_LeastFrame fp0 fp1).1).2).length 1) 1) < 0))) hE385 (y_lss rfl rfl) rfl rfl rfl ?_; intro a386 hE387; clear hE385
        refine c_nil ?_
        have hE388 := hE387.sub (L' := [(1, .pointer (some ⟨b2, 0, none⟩)), (4, .pointer (some ⟨b67, 0, none⟩)), (5, .int .i64 ((F_s_LeastFrame fp0 fp1).2)), (7, .pointer (some ⟨b124, 0, none⟩)), (10, .int .i64 (1 + ((((F_LeastFrame fp0 fp1).1).2).length : Int))), (11, .int .i64 (F_l_heldFrame (((F_LeastFrame fp0 fp1).1).1) (marked (((F_LeastFrame fp0 fp1).1).2).length 1) 1)), (69, .bool (decide ((F_l_heldFrame (((F_LeastFrame fp0 fp1).1).1) (marked (((F_LeastFrame fp0 fp1).1).2).length 1) 1) < 0)))]) ⟨rfl, rfl, rfl, rfl, rfl, rfl, rfl, trivial⟩; clear hE387
        refine p_tn ?_
        refine c_cond hE388 rfl (fun ht389 => ?_) (fun ht389 => ?_)
        ·
         have hp390 := of_decide_eq_true ht389
         have hE391 := hE388; rw [ht389] at hE391; clear hE388
         refine c_seq ?_
         refine c_reg ?_
         refine q_step (v := .bool false) hE391 (y_assign rfl) rfl rfl rfl ?_; intro a392 hE393; clear hE391
         refine c_nil ?_
         have hE394 := hE393.sub (L' := [(2, .bool false)]) ⟨rfl, trivial⟩; clear hE393
         refine p_tn ?_
         refine wp_ret ?_
         refine p_tr ?_
         have hF : F_l_FnExactLeastFrame fp0 fp1 = false := by unfold F_l_FnExactLeastFrame; rw [ht389, ht335, ht224, ht187, ht32]; first | done | rfl
         refine c_ret1 hE394 rfl rfl ?_
         exact ⟨(by rw [hF]; first | done | (dsimp only; done) | rfl), hS378.ext⟩
        ·
         have hp395 := of_decide_eq_false ht389
         have hE396 := hE388; rw [ht389] at hE396; clear hE388
         refine wp_skip ?_
         refine p_tn ?_
         refine c_seq ?_
         refine c_seq ?_
         refine c_reg ?_
         refine q_step (v := .int .i64 (F_l_heldFrame (((F_LeastFrame fp0 fp1).1).1) (marked (((F_LeastFrame fp0 fp1).1).2).length 1) 1)) hE396 (y_move rfl) rfl rfl rfl ?_; intro a397 hE398; clear hE396
         refine q_step (v := .int .i64 (1 + ((((F_LeastFrame fp0 fp1).1).2).length : Int))) hE398 (y_move rfl) rfl rfl rfl ?_; intro a399 hE400; clear hE398
         refine q_step (v := .bool (!decide ((F_l_heldFrame (((F_LeastFrame fp0 fp1).1).1) (marked (((F_LeastFrame fp0 fp1).1).2).length 1) 1) = (1 + ((((F_LeastFrame fp0 fp1).1).2).length : Int))))) hE400 (y_neq rfl rfl) rfl rfl rfl ?_; intro a401 hE402; clear hE400
         refine c_nil ?_
         have hE403 := hE402.sub (L' := [(1, .pointer (some ⟨b2, 0, none⟩)), (4, .pointer (some ⟨b67, 0, none⟩)), (5, .int .i64 ((F_s_LeastFrame fp0 fp1).2)), (7, .pointer (some ⟨b124, 0, none⟩)), (10, .int .i64 (1 + ((((F_LeastFrame fp0 fp1).1).2).length : Int))), (72, .bool (!decide ((F_l_heldFrame (((F_LeastFrame fp0 fp1).1).1) (marked (((F_LeastFrame fp0 fp1).1).2).length 1) 1) = (1 + ((((F_LeastFrame fp0 fp1).1).2).length : Int)))))]) ⟨rfl, rfl, rfl, rfl, rfl, rfl, trivial⟩; clear hE402
         refine p_tn ?_
         refine c_cond hE403 rfl (fun ht404 => ?_) (fun ht404 => ?_)
         ·
          have ht405 := bn_t ht404
          have hp406 := of_decide_eq_false ht405
          have hE407 := hE403; rw [ht404] at hE407; clear hE403
          refine c_seq ?_
          refine c_reg ?_
          refine q_step (v := .bool false) hE407 (y_assign rfl) rfl rfl rfl ?_; intro a408 hE409; clear hE407
          refine c_nil ?_
          have hE410 := hE409.sub (L' := [(2, .bool false)]) ⟨rfl, trivial⟩; clear hE409
          refine p_tn ?_
          refine wp_ret ?_
          refine p_tr ?_
          have hF : F_l_FnExactLeastFrame fp0 fp1 = false := by unfold F_l_FnExactLeastFrame; rw [ht404, ht389, ht335, ht224, ht187, ht32]; first | done | rfl
          refine c_ret1 hE410 rfl rfl ?_
          exact ⟨(by rw [hF]; first | done | (dsimp only; done) | rfl), hS378.ext⟩
         ·
          have ht411 := bn_f ht404
          have hp412 := of_decide_eq_true ht411
          have hE413 := hE403; rw [ht404] at hE413; clear hE403
          refine wp_skip ?_
          refine p_tn ?_
          refine c_seq ?_
          refine c_reg ?_
          refine q_step (v := .agg #[.int .i64 fp0, .slice fp1A fp1.length fp1C]) hE413 (y_loadS Try.underlying24 rfl (by kernel_rfl) rfl (St.row (i := 9) hS378 rfl)) rfl rfl rfl ?_; intro a414 hE415; clear hE413
          refine l_step hE415 rfl (l_call (f := 30) (argv := [.agg #[.int .i64 fp0, .slice fp1A fp1.length fp1C]]) hE415 (fun _ => cf_l_toFrame _ _) rfl rfl (d_l_toFrame fp0 fp1A fp1.length fp1C fp1 w375 (St.rdR (i := 8) hS378 rfl) (by first | omega | (simp only [marked_len]; omega) | (simp only [marked_len] at *; omega))) ?_)
          rintro _ w417 ⟨b422, c423, rfl, ho424, he421⟩ a418 hE419; clear hE415
          have hS420 := St.own hS378 he421 ho424; clear hS378
          refine l_step hE419 rfl (l_call (f := 42) (argv := [.agg #[.int .i64 fp0, .slice b422 ((fp1).length) c423]]) hE419 (fun _ => cf_LeastFrame _ _) rfl rfl (c_LeastFrame fp0 b422 ((fp1).length) c423 fp1 w417 (St.rdO (i := 0) hS420 rfl)) ?_)
          rintro _ w426 ⟨b431, c432, rfl, ho433, he430⟩ a427 hE428; clear hE419
          have hf434 := LeastFrame_len fp0 fp1
          have hS429 := St.own hS420 he430 ho433; clear hS420
          refine q_step (v := .tuple #[.agg #[.int .i64 (((F_LeastFrame fp0 fp1).1).1), .slice b431 ((((F_LeastFrame fp0 fp1).1).2).length) c432], .int .i64 ((F_LeastFrame fp0 fp1).2)]) hE428 (y_move rfl) rfl rfl rfl ?_; intro a435 hE436; clear hE428
          refine q_step (v := .agg #[.int .i64 (((F_LeastFrame fp0 fp1).1).1), .slice b431 ((((F_LeastFrame fp0 fp1).1).2).length) c432]) hE436 (y_extract rfl rfl) rfl rfl rfl ?_; intro a437 hE438; clear hE436
          refine q_step (v := .int .i64 ((F_LeastFrame fp0 fp1).2)) hE438 (y_extract rfl rfl) rfl rfl rfl ?_; intro a439 hE440; clear hE438
          refine l_step hE440 rfl (l_alloc (z := .agg #[.int .i64 0, .slice none 0 0]) (cs := #[.int .i64 0, .slice none 0 0]) hS429 hE440 (fun _ => by kernel_rfl) rfl rfl ?_)
          intro b441 w442 hS445 he446 a443 hE444; clear hS429 hE440
          refine l_step hE444 rfl (l_storeS (k := 0) (cs' := #[.int .i64 (((F_LeastFrame fp0 fp1).1).1), .slice b431 ((((F_LeastFrame fp0 fp1).1).2).length) c432]) hS445 hE444 (by kernel_rfl) rfl rfl (by kernel_rfl) rfl rfl ?_)
          intro w448 hS451 a449 hE450; clear hS445 hE444
          refine q_step (v := .int .i64 ((F_LeastFrame fp0 fp1).2)) hE450 (y_assign rfl) rfl rfl rfl ?_; intro a453 hE454; clear hE450
          refine c_nil ?_
          have hE455 := hE454.sub (L' := [(4, .pointer (some ⟨b67, 0, none⟩)), (5, .int .i64 ((F_s_LeastFrame fp0 fp1).2)), (7, .pointer (some ⟨b124, 0, none⟩)), (10, .int .i64 (1 + ((((F_LeastFrame fp0 fp1).1).2).length : Int))), (12, .pointer (some ⟨b441, 0, none⟩)), (13, .int .i64 ((F_LeastFrame fp0 fp1).2))]) ⟨rfl, rfl, rfl, rfl, rfl, rfl, trivial⟩; clear hE454
          refine p_tn ?_
          refine c_seq ?_
          refine c_cut (fun a' w' => E a' 96 [(7, .pointer (some ⟨b124, 0, none⟩)), (10, .int .i64 (1 + ((((F_LeastFrame fp0 fp1).1).2).length : Int))), (87, .bool ((!(decide (((((F_LeastFrame fp0 fp1).1).1), (((F_LeastFrame fp0 fp1).1).2)) = ((((F_s_LeastFrame fp0 fp1).1).1), (((F_s_LeastFrame fp0 fp1).1).2))))) || (!decide (((F_LeastFrame fp0 fp1).2) = ((F_s_LeastFrame fp0 fp1).2)))))] ∧ St w w' [.own 2 1 b431 ((((F_LeastFrame fp0 fp1).1).2).length) c432 (((F_LeastFrame fp0 fp1).1).2), .blk b441 #[.int .i64 (((F_LeastFrame fp0 fp1).1).1), .slice b431 ((((F_LeastFrame fp0 fp1).1).2).length) c432] 30, .own 2 1 b422 ((fp1).length) c423 fp1, .own 2 1 b114 ((((F_LeastFrame fp0 fp1).1).2).length) c115 (marked (((F_LeastFrame fp0 fp1).1).2).length 1), .own 2 1 b90 ((fp1).length) c91 (marked fp1.length 1), .own 2 1 b212 ((fp1).length) c213 fp1, .blk b124 #[.int .i64 (((F_LeastFrame fp0 fp1).1).1), .slice b114 ((((F_LeastFrame fp0 fp1).1).2).length) c115] 30, .blk b93 #[.int .i64 fp0, .slice b90 ((fp1).length) c91] 30, .own 2 1 b58 ((((F_s_LeastFrame fp0 fp1).1).2).length) c59 (((F_s_LeastFrame fp0 fp1).1).2), .blk b67 #[.int .i64 (((F_s_LeastFrame fp0 fp1).1).1), .slice b58 ((((F_s_LeastFrame fp0 fp1).1).2).length) c59] 30, .own 2 1 b49 ((fp1).length) c50 fp1, .rd 1 fp1A fp1.length fp1C fp1, .blk b2 #[.int .i64 fp0, .slice fp1A fp1.length fp1C] 24]) ?_ ?_
          ·
           refine c_reg ?_
           refine q_step (v := .agg #[.int .i64 (((F_LeastFrame fp0 fp1).1).1), .slice b431 ((((F_LeastFrame fp0 fp1).1).2).length) c432]) hE455 (y_loadS Try.underlying30 rfl (by kernel_rfl) rfl (St.row (i := 0) hS451 rfl)) rfl rfl rfl ?_; intro a456 hE457; clear hE455
           refine q_step (v := .agg #[.int .i64 (((F_s_LeastFrame fp0 fp1).1).1), .slice b58 ((((F_s_LeastFrame fp0 fp1).1).2).length) c59]) hE457 (y_loadS Try.underlying30 rfl (by kernel_rfl) rfl (St.row (i := 9) hS451 rfl)) rfl rfl rfl ?_; intro a458 hE459; clear hE457
           refine l_step hE459 rfl (l_call (f := 32) (argv := [.agg #[.int .i64 (((F_LeastFrame fp0 fp1).1).1), .slice b431 ((((F_LeastFrame fp0 fp1).1).2).length) c432], .agg #[.int .i64 (((F_s_LeastFrame fp0 fp1).1).1), .slice b58 ((((F_s_LeastFrame fp0 fp1).1).2).length) c59]]) hE459 (fun _ => cf_l_eqFrame _ _) rfl rfl (d_l_eqFrame (((F_LeastFrame fp0 fp1).1).1) b431 ((((F_LeastFrame fp0 fp1).1).2).length) c432 (((F_LeastFrame fp0 fp1).1).2) (((F_s_LeastFrame fp0 fp1).1).1) b58 ((((F_s_LeastFrame fp0 fp1).1).2).length) c59 (((F_s_LeastFrame fp0 fp1).1).2) w448 (St.rdO (i := 1) hS451 rfl) (St.rdO (i := 8) hS451 rfl)) ?_)
           rintro _ w461 ⟨rfl, he465⟩ a462 hE463; clear hE459
           have hS464 := St.go hS451 he465; clear hS451
           refine q_step (v := .bool (!(decide (((((F_LeastFrame fp0 fp1).1).1), (((F_LeastFrame fp0 fp1).1).2)) = ((((F_s_LeastFrame fp0 fp1).1).1), (((F_s_LeastFrame fp0 fp1).1).2)))))) hE463 (y_not rfl) rfl rfl rfl ?_; intro a466 hE467; clear hE463
           refine q_step (v := .bool (!(decide (((((F_LeastFrame fp0 fp1).1).1), (((F_LeastFrame fp0 fp1).1).2)) = ((((F_s_LeastFrame fp0 fp1).1).1), (((F_s_LeastFrame fp0 fp1).1).2)))))) hE467 (y_move rfl) rfl rfl rfl ?_; intro a468 hE469; clear hE467
           rcases Bool.eq_false_or_eq_true (!(decide (((((F_LeastFrame fp0 fp1).1).1), (((F_LeastFrame fp0 fp1).1).2)) = ((((F_s_LeastFrame fp0 fp1).1).1), (((F_s_LeastFrame fp0 fp1).1).2))))) with hb470 | hb470
           ·
            have hE471 := hE469; (try rw [hb470] at hE471); clear hE469
            have ht472 := bn_t hb470
            have hp473 := of_decide_eq_false ht472
            refine q_skip hE471 rfl rfl rfl ?_; intro a474 hE475; clear hE471
            refine q_skip hE475 rfl rfl rfl ?_; intro a476 hE477; clear hE475
            refine q_skip hE477 rfl rfl rfl ?_; intro a478 hE479; clear hE477
            refine q_step (v := .bool true) hE479 (y_pick (b := true) rfl rfl) rfl rfl rfl ?_; intro a480 hE481; clear hE479
            refine c_nil ?_
            have hE482 := hE481.sub (L' := [(7, .pointer (some ⟨b124, 0, none⟩)), (10, .int .i64 (1 + ((((F_LeastFrame fp0 fp1).1).2).length : Int))), (87, .bool true)]) ⟨rfl, rfl, rfl, trivial⟩; clear hE481
            refine p_tn ?_
            have hE483 := hE482.sub (L' := [(7, .pointer (some ⟨b124, 0, none⟩)), (10, .int .i64 (1 + ((((F_LeastFrame fp0 fp1).1).2).length : Int))), (87, .bool true)]) ⟨rfl, rfl, rfl, trivial⟩
            have hS484 := (St.pick (Γ' := [.own 2 1 b431 ((((F_LeastFrame fp0 fp1).1).2).length) c432 (((F_LeastFrame fp0 fp1).1).2), .blk b441 #[.int .i64 (((F_LeastFrame fp0 fp1).1).1), .slice b431 ((((F_LeastFrame fp0 fp1).1).2).length) c432] 30, .own 2 1 b422 ((fp1).length) c423 fp1, .own 2 1 b114 ((((F_LeastFrame fp0 fp1).1).2).length) c115 (marked (((F_LeastFrame fp0 fp1).1).2).length 1), .own 2 1 b90 ((fp1).length) c91 (marked fp1.length 1), .own 2 1 b212 ((fp1).length) c213 fp1, .blk b124 #[.int .i64 (((F_LeastFrame fp0 fp1).1).1), .slice b114 ((((F_LeastFrame fp0 fp1).1).2).length) c115] 30, .blk b93 #[.int .i64 fp0, .slice b90 ((fp1).length) c91] 30, .own 2 1 b58 ((((F_s_LeastFrame fp0 fp1).1).2).length) c59 (((F_s_LeastFrame fp0 fp1).1).2), .blk b67 #[.int .i64 (((F_s_LeastFrame fp0 fp1).1).1), .slice b58 ((((F_s_LeastFrame fp0 fp1).1).2).length) c59] 30, .own 2 1 b49 ((fp1).length) c50 fp1, .rd 1 fp1A fp1.length fp1C fp1, .blk b2 #[.int .i64 fp0, .slice fp1A fp1.length fp1C] 24]) hS464 [1, 0, 2, 3, 4, 5, 6, 7, 8, 9, 10, 11, 12] (by decide) rfl)
            exact ⟨(by rw [hb470]; exact hE483), hS484⟩
           ·
            have hE485 := hE469; (try rw [hb470] at hE485); clear hE469
            have ht486 := bn_f hb470
            have hp487 := of_decide_eq_true ht486
            refine q_step (v := .int .i64 ((F_LeastFrame fp0 fp1).2)) hE485 (y_move rfl) rfl rfl rfl ?_; intro a488 hE489; clear hE485
            refine q_step (v := .int .i64 ((F_s_LeastFrame fp0 fp1).2)) hE489 (y_move rfl) rfl rfl rfl ?_; intro a490 hE491; clear hE489
            refine q_step (v := .bool (!decide (((F_LeastFrame fp0 fp1).2) = ((F_s_LeastFrame fp0 fp1).2)))) hE491 (y_neq rfl rfl) rfl rfl rfl ?_; intro a492 hE493; clear hE491
            refine q_step (v := .bool (!decide (((F_LeastFrame fp0 fp1).2) = ((F_s_LeastFrame fp0 fp1).2)))) hE493 (y_pick (b := false) rfl rfl) rfl rfl rfl ?_; intro a494 hE495; clear hE493
            refine c_nil ?_
            have hE496 := hE495.sub (L' := [(7, .pointer (some ⟨b124, 0, none⟩)), (10, .int .i64 (1 + ((((F_LeastFrame fp0 fp1).1).2).length : Int))), (87, .bool (!decide (((F_LeastFrame fp0 fp1).2) = ((F_s_LeastFrame fp0 fp1).2))))]) ⟨rfl, rfl, rfl, trivial⟩; clear hE495
            refine p_tn ?_
            have hE497 := hE496.sub (L' := [(7, .pointer (some ⟨b124, 0, none⟩)), (10, .int .i64 (1 + ((((F_LeastFrame fp0 fp1).1).2).length : Int))), (87, .bool (!decide (((F_LeastFrame fp0 fp1).2) = ((F_s_LeastFrame fp0 fp1).2))))]) ⟨rfl, rfl, rfl, trivial⟩
            have hS498 := (St.pick (Γ' := [.own 2 1 b431 ((((F_LeastFrame fp0 fp1).1).2).length) c432 (((F_LeastFrame fp0 fp1).1).2), .blk b441 #[.int .i64 (((F_LeastFrame fp0 fp1).1).1), .slice b431 ((((F_LeastFrame fp0 fp1).1).2).length) c432] 30, .own 2 1 b422 ((fp1).length) c423 fp1, .own 2 1 b114 ((((F_LeastFrame fp0 fp1).1).2).length) c115 (marked (((F_LeastFrame fp0 fp1).1).2).length 1), .own 2 1 b90 ((fp1).length) c91 (marked fp1.length 1), .own 2 1 b212 ((fp1).length) c213 fp1, .blk b124 #[.int .i64 (((F_LeastFrame fp0 fp1).1).1), .slice b114 ((((F_LeastFrame fp0 fp1).1).2).length) c115] 30, .blk b93 #[.int .i64 fp0, .slice b90 ((fp1).length) c91] 30, .own 2 1 b58 ((((F_s_LeastFrame fp0 fp1).1).2).length) c59 (((F_s_LeastFrame fp0 fp1).1).2), .blk b67 #[.int .i64 (((F_s_LeastFrame fp0 fp1).1).1), .slice b58 ((((F_s_LeastFrame fp0 fp1).1).2).length) c59] 30, .own 2 1 b49 ((fp1).length) c50 fp1, .rd 1 fp1A fp1.length fp1C fp1, .blk b2 #[.int .i64 fp0, .slice fp1A fp1.length fp1C] 24]) hS464 [1, 0, 2, 3, 4, 5, 6, 7, 8, 9, 10, 11, 12] (by decide) rfl)
            exact ⟨(by rw [hb470]; exact hE497), hS498⟩
          ·
           rintro a499 w500 ⟨hE501, hS502⟩; clear hE455 hS451
           have hE504 := hE501; rw [ht187] at hE504; clear hE501
           refine c_false hE504 rfl ?_
           refine wp_skip ?_
           refine p_tn ?_
           refine c_seq ?_
           refine c_reg ?_
           refine q_step (v := .int .i64 1) hE504 (y_assign rfl) rfl rfl rfl ?_; intro a505 hE506; clear hE504
           refine c_nil ?_
           have hE507 := hE506.sub (L' := [(7, .pointer (some ⟨b124, 0, none⟩)), (10, .int .i64 (1 + ((((F_LeastFrame fp0 fp1).1).2).length : Int))), (11, .int .i64 1)]) ⟨rfl, rfl, rfl, trivial⟩; clear hE506
           refine p_tn ?_
           refine c_seq ?_
           refine c_reg ?_
           refine q_step (v := .agg #[.int .i64 (((F_LeastFrame fp0 fp1).1).1), .slice b114 ((((F_LeastFrame fp0 fp1).1).2).length) c115]) hE507 (y_loadS Try.underlying30 rfl (by kernel_rfl) rfl (St.row (i := 6) hS502 rfl)) rfl rfl rfl ?_; intro a508 hE509; clear hE507
           refine q_step (v := .int .i64 1) hE509 (y_move rfl) rfl rfl rfl ?_; intro a510 hE511; clear hE509
           refine l_step hE511 rfl (l_call (f := 43) (argv := [.agg #[.int .i64 (((F_LeastFrame fp0 fp1).1).1), .slice b114 ((((F_LeastFrame fp0 fp1).1).2).length) c115], .int .i64 1]) hE511 (fun _ => cf_l_heldFrame _ _) rfl rfl (c_l_heldFrame (((F_LeastFrame fp0 fp1).1).1) b114 ((((F_LeastFrame fp0 fp1).1).2).length) c115 (marked (((F_LeastFrame fp0 fp1).1).2).length 1) 1 w500 (St.rdO (i := 3) hS502 rfl) (by first | omega | (simp only [marked_len]; omega) | (simp only [marked_len] at *; omega)) (by first | omega | (simp only [marked_len]; omega) | (simp only [marked_len] at *; omega)) (by first | omega | (simp only [marked_len]; omega) | (simp only [marked_len] at *; omega))) ?_)
           rintro _ w513 ⟨rfl, he517⟩ a514 hE515; clear hE511
           have hf518 := heldFrame_le (((F_LeastFrame fp0 fp1).1).1) (marked (((F_LeastFrame fp0 fp1).1).2).length 1) 1
           have hS516 := St.go hS502 he517; clear hS502
           refine q_step (v := .int .i64 (F_l_heldFrame (((F_LeastFrame fp0 fp1).1).1) (marked (((F_LeastFrame fp0 fp1).1).2).length 1) 1)) hE515 (y_assign rfl) rfl rfl rfl ?_; intro a519 hE520; clear hE515
           refine c_nil ?_
           have hE521 := hE520.sub (L' := [(10, .int .i64 (1 + ((((F_LeastFrame fp0 fp1).1).2).length : Int))), (11, .int .i64 (F_l_heldFrame (((F_LeastFrame fp0 fp1).1).1) (marked (((F_LeastFrame fp0 fp1).1).2).length 1) 1))]) ⟨rfl, rfl, trivial⟩; clear hE520
           refine p_tn ?_
           refine c_seq ?_
           refine c_seq ?_
           refine c_reg ?_
           refine q_step (v := .int .i64 (F_l_heldFrame (((F_LeastFrame fp0 fp1).1).1) (marked (((F_LeastFrame fp0 fp1).1).2).length 1) 1)) hE521 (y_move rfl) rfl rfl rfl ?_; intro a522 hE523; clear hE521
           refine q_step (v := .bool (decide ((F_l_heldFrame (((F_LeastFrame fp0 fp1).1).1) (marked (((F_LeastFrame fp0 fp1).1).2).length 1) 1) < 0))) hE523 (y_lss rfl rfl) rfl rfl rfl ?_; intro a524 hE525; clear hE523
           refine c_nil ?_
           have hE526 := hE525.sub (L' := [(10, .int .i64 (1 + ((((F_LeastFrame fp0 fp1).1).2).length : Int))), (11, .int .i64 (F_l_heldFrame (((F_LeastFrame fp0 fp1).1).1) (marked (((F_LeastFrame fp0 fp1).1).2).length 1) 1)), (92, .bool (decide ((F_l_heldFrame (((F_LeastFrame fp0 fp1).1).1) (marked (((F_LeastFrame fp0 fp1).1).2).length 1) 1) < 0)))]) ⟨rfl, rfl, rfl, trivial⟩; clear hE525
           refine p_tn ?_
           have hE527 := hE526; rw [ht389] at hE527; clear hE526
           refine c_false hE527 rfl ?_
           refine wp_skip ?_
           refine p_tn ?_
           refine c_seq ?_
           refine c_seq ?_
           refine c_reg ?_
           refine q_step (v := .int .i64 (F_l_heldFrame (((F_LeastFrame fp0 fp1).1).1) (marked (((F_LeastFrame fp0 fp1).1).2).length 1) 1)) hE527 (y_move rfl) rfl rfl rfl ?_; intro a528 hE529; clear hE527
           refine q_step (v := .int .i64 (1 + ((((F_LeastFrame fp0 fp1).1).2).length : Int))) hE529 (y_move rfl) rfl rfl rfl ?_; intro a530 hE531; clear hE529
           refine q_step (v := .bool (!decide ((F_l_heldFrame (((F_LeastFrame fp0 fp1).1).1) (marked (((F_LeastFrame fp0 fp1).1).2).length 1) 1) = (1 + ((((F_LeastFrame fp0 fp1).1).2).length : Int))))) hE531 (y_neq rfl rfl) rfl rfl rfl ?_; intro a532 hE533; clear hE531
           refine c_nil ?_
           have hE534 := hE533.sub (L' := [(95, .bool (!decide ((F_l_heldFrame (((F_LeastFrame fp0 fp1).1).1) (marked (((F_LeastFrame fp0 fp1).1).2).length 1) 1) = (1 + ((((F_LeastFrame fp0 fp1).1).2).length : Int)))))]) ⟨rfl, trivial⟩; clear hE533
           refine p_tn ?_
           have hE535 := hE534; rw [ht404] at hE535; clear hE534
           refine c_false hE535 rfl ?_
           refine wp_skip ?_
           refine p_tn ?_
           refine c_seq ?_
           refine c_reg ?_
           refine q_step (v := .bool true) hE535 (y_assign rfl) rfl rfl rfl ?_; intro a536 hE537; clear hE535
           refine c_nil ?_
           have hE538 := hE537.sub (L' := [(2, .bool true)]) ⟨rfl, trivial⟩; clear hE537
           refine p_tn ?_
           refine wp_ret ?_
           have hF : F_l_FnExactLeastFrame fp0 fp1 = true := by unfold F_l_FnExactLeastFrame; rw [ht404, ht389, ht335, ht224, ht187, ht32]; first | done | rfl
           refine c_ret1 hE538 rfl rfl ?_
           exact ⟨(by rw [hF]; first | done | (dsimp only; done) | rfl), hS516.ext⟩
theorem FnExactLeastFrame_true (fp0 : Int) (fp1 : List Int) : F_l_FnExactLeastFrame fp0 fp1 = true := by
  unfold F_l_FnExactLeastFrame
  rw [LeastFrame_eq, heldFrame_eq _ _ _ (by omega)]
  have h1 : decide (1 + (fp1.length : Int) < 0) = false := decide_eq_false (by omega)
  have h2 : decide ((1 : Int) + ((F_s_LeastFrame fp0 fp1).1.2.length : Int) < 0) = false := decide_eq_false (by omega)
  simp [h1, h2]
end Go.Proofs.Ytlbonhloeefnmaa
