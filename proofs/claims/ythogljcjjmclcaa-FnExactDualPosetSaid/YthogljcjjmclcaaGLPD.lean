/- GLPD: models and contracts, printed by wip/gen/gen.py -/
import Derived.Test.YthogljcjjmclcaaGA
import Derived.Test.YthogljcjjmclcaaGPD
set_option linter.unusedVariables false
set_option linter.unusedSimpArgs false
namespace Go.Proofs.Ythogljcjjmclcaa
open Go.RowKit

def F_l_FnExactDualPoset (pp0 : Int) (pp1 : List Int) : Bool :=
  bif (decide ((F_l_szPoset pp0 pp1 1048576) < 0)) then true else (bif ((!(decide (((((F_DualPoset pp0 pp1).1).1), (((F_DualPoset pp0 pp1).1).2)) = ((((F_s_DualPoset pp0 pp1).1).1), (((F_s_DualPoset pp0 pp1).1).2))))) || (!decide (((F_DualPoset pp0 pp1).2) = ((F_s_DualPoset pp0 pp1).2)))) then false else (bif (!(decide ((pp0, pp1) = (pp0, pp1)))) then false else (bif ((decide ((1 + (pp1.length : Int)) < 0)) || ((!(decide (((((F_DualPoset pp0 pp1).1).1), (((F_DualPoset pp0 pp1).1).2)) = ((((F_s_DualPoset pp0 pp1).1).1), (((F_s_DualPoset pp0 pp1).1).2))))) || (!decide (((F_DualPoset pp0 pp1).2) = ((F_s_DualPoset pp0 pp1).2))))) then false else (bif (decide ((F_l_heldPoset (((F_DualPoset pp0 pp1).1).1) (marked (((F_DualPoset pp0 pp1).1).2).length 1) 1) < 0)) then false else (bif (!decide ((F_l_heldPoset (((F_DualPoset pp0 pp1).1).1) (marked (((F_DualPoset pp0 pp1).1).2).length 1) 1) = (1 + ((((F_DualPoset pp0 pp1).1).2).length : Int)))) then false else true)))))
theorem cf_l_FnExactDualPoset (args : Array Value) (w : World) : (callFunc 6 args).run Try.prog w = .ok (.enter 6 args) w := by kernel_rfl
set_option maxRecDepth 100000 in
theorem c_l_FnExactDualPoset (pp0 : Int) (pp1A : Option Addr) (pp1N pp1C : Nat) (pp1 : List Int) (w : World) (pp1R : RdS w 1 pp1A pp1N pp1C pp1) :
    Calls Try.prog 6 #[.agg #[.int .i64 pp0, .slice pp1A pp1N pp1C]] w (Ret fun v w' => v = .bool (F_l_FnExactDualPoset pp0 pp1) ∧ Ext w w') := by
  obtain rfl : pp1N = pp1.length := pp1R.len1.symm
  have pp1Le := pp1R.le
  have hS := St.nil w
  have hS1 := St.rd0 hS rfl pp1R; clear hS
  refine enter (args := [.agg #[.int .i64 pp0, .slice pp1A pp1.length pp1C]]) Try.func6 rfl rfl ?_
  rw [Try.ntmps6]; intro a hE
  have hE := hE.sub (L' := [(0, .agg #[.int .i64 pp0, .slice pp1A pp1.length pp1C])]) ⟨rfl, trivial⟩
  refine c_seq ?_
  refine c_reg ?_
  refine l_step hE rfl (l_box (v := .agg #[.int .i64 pp0, .slice pp1A pp1.length pp1C]) (cs := #[.int .i64 pp0, .slice pp1A pp1.length pp1C]) hS1 hE rfl rfl rfl ?_)
  intro b2 w3 hS6 he7 a4 hE5; clear hS1 hE
  refine q_step (v := .bool false) hE5 (y_assign rfl) rfl rfl rfl ?_; intro a8 hE9; clear hE5
  refine c_nil ?_
  have hE10 := hE9.sub (L' := [(1, .pointer (some ⟨b2, 0, none⟩))]) ⟨rfl, trivial⟩; clear hE9
  refine p_tn ?_
  refine c_seq ?_
  refine c_reg ?_
  refine q_step (v := .int .i64 1048576) hE10 (y_assign rfl) rfl rfl rfl ?_; intro a11 hE12; clear hE10
  refine c_nil ?_
  have hE13 := hE12.sub (L' := [(1, .pointer (some ⟨b2, 0, none⟩)), (3, .int .i64 1048576)]) ⟨rfl, rfl, trivial⟩; clear hE12
  refine p_tn ?_
  refine c_seq ?_
  refine c_reg ?_
  refine q_step (v := .agg #[.int .i64 pp0, .slice pp1A pp1.length pp1C]) hE13 (y_loadS Try.underlying24 rfl (by kernel_rfl) rfl (St.row (i := 0) hS6 rfl)) rfl rfl rfl ?_; intro a14 hE15; clear hE13
  refine q_step (v := .int .i64 1048576) hE15 (y_move rfl) rfl rfl rfl ?_; intro a16 hE17; clear hE15
  refine l_step hE17 rfl (l_call (f := 14) (argv := [.agg #[.int .i64 pp0, .slice pp1A pp1.length pp1C], .int .i64 1048576]) hE17 (fun _ => cf_l_szPoset _ _) rfl rfl (c_l_szPoset pp0 pp1A pp1.length pp1C pp1 1048576 w3 (St.rdR (i := 1) hS6 rfl) (by first | omega | (simp only [marked_len]; omega) | (simp only [marked_len] at *; omega)) (by first | omega | (simp only [marked_len]; omega) | (simp only [marked_len] at *; omega))) ?_)
  rintro _ w19 ⟨rfl, he23⟩ a20 hE21; clear hE17
  have hS22 := St.go hS6 he23; clear hS6
  refine q_step (v := .int .i64 (F_l_szPoset pp0 pp1 1048576)) hE21 (y_assign rfl) rfl rfl rfl ?_; intro a24 hE25; clear hE21
  refine c_nil ?_
  have hE26 := hE25.sub (L' := [(1, .pointer (some ⟨b2, 0, none⟩)), (3, .int .i64 (F_l_szPoset pp0 pp1 1048576))]) ⟨rfl, rfl, trivial⟩; clear hE25
  refine p_tn ?_
  refine c_seq ?_
  refine c_seq ?_
  refine c_reg ?_
  refine q_step (v := .int .i64 (F_l_szPoset pp0 pp1 1048576)) hE26 (y_move rfl) rfl rfl rfl ?_; intro a27 hE28; clear hE26
  refine q_step (v := .bool (decide ((F_l_szPoset pp0 pp1 1048576) < 0))) hE28 (y_lss rfl rfl) rfl rfl rfl ?_; intro a29 hE30; clear hE28
  refine c_nil ?_
  have hE31 := hE30.sub (L' := [(1, .pointer (some ⟨b2, 0, none⟩)), (18, .bool (decide ((F_l_szPoset pp0 pp1 1048576) < 0)))]) ⟨rfl, rfl, trivial⟩; clear hE30
  refine p_tn ?_
  refine c_cond hE31 rfl (fun ht32 => ?_) (fun ht32 => ?_)
  ·
    have hp33 := of_decide_eq_true ht32
    have hE34 := hE31; rw [ht32] at hE34; clear hE31
    refine c_seq ?_
    refine c_reg ?_
    refine q_step (v := .bool true) hE34 (y_assign rfl) rfl rfl rfl ?_; intro a35 hE36; clear hE34
    refine c_nil ?_
    have hE37 := hE36.sub (L' := [(2, .bool true)]) ⟨rfl, trivial⟩; clear hE36
    refine p_tn ?_
    refine wp_ret ?_
    refine p_tr ?_
    have hF : F_l_FnExactDualPoset pp0 pp1 = true := by unfold F_l_FnExactDualPoset; rw [ht32]; first | done | rfl
    refine c_ret1 hE37 rfl rfl ?_
    exact ⟨(by rw [hF]; first | done | rfl), hS22.ext⟩
  ·
    have hp38 := of_decide_eq_false ht32
    have hq39 := szPoset_bound hp38
    have hE40 := hE31; rw [ht32] at hE40; clear hE31
    refine wp_skip ?_
    refine p_tn ?_
    refine c_seq ?_
    refine c_reg ?_
    refine q_step (v := .agg #[.int .i64 pp0, .slice pp1A pp1.length pp1C]) hE40 (y_loadS Try.underlying24 rfl (by kernel_rfl) rfl (St.row (i := 0) hS22 rfl)) rfl rfl rfl ?_; intro a41 hE42; clear hE40
    refine l_step hE42 rfl (l_call (f := 16) (argv := [.agg #[.int .i64 pp0, .slice pp1A pp1.length pp1C]]) hE42 (fun _ => cf_l_toPoset _ _) rfl rfl (d_l_toPoset pp0 pp1A pp1.length pp1C pp1 w19 (St.rdR (i := 1) hS22 rfl) (by first | omega | (simp only [marked_len]; omega) | (simp only [marked_len] at *; omega))) ?_)
    rintro _ w44 ⟨b49, c50, rfl, ho51, he48⟩ a45 hE46; clear hE42
    have hS47 := St.own hS22 he48 ho51; clear hS22
    refine l_step hE46 rfl (l_call (f := 23) (argv := [.agg #[.int .i64 pp0, .slice b49 ((pp1).length) c50]]) hE46 (fun _ => cf_s_DualPoset _ _) rfl rfl (c_s_DualPoset pp0 b49 ((pp1).length) c50 pp1 w44 (St.rdO (i := 0) hS47 rfl)) ?_)
    rintro _ w53 ⟨b58, c59, rfl, ho60, he57⟩ a54 hE55; clear hE46
    have hS56 := St.own hS47 he57 ho60; clear hS47
    refine q_step (v := .tuple #[.agg #[.int .i64 (((F_s_DualPoset pp0 pp1).1).1), .slice b58 ((((F_s_DualPoset pp0 pp1).1).2).length) c59], .int .i64 ((F_s_DualPoset pp0 pp1).2)]) hE55 (y_move rfl) rfl rfl rfl ?_; intro a61 hE62; clear hE55
    refine q_step (v := .agg #[.int .i64 (((F_s_DualPoset pp0 pp1).1).1), .slice b58 ((((F_s_DualPoset pp0 pp1).1).2).length) c59]) hE62 (y_extract rfl rfl) rfl rfl rfl ?_; intro a63 hE64; clear hE62
    refine q_step (v := .int .i64 ((F_s_DualPoset pp0 pp1).2)) hE64 (y_extract rfl rfl) rfl rfl rfl ?_; intro a65 hE66; clear hE64
    refine l_step hE66 rfl (l_alloc (z := .agg #[.int .i64 0, .slice none 0 0]) (cs := #[.int .i64 0, .slice none 0 0]) hS56 hE66 (fun _ => by kernel_rfl) rfl rfl ?_)
    intro b67 w68 hS71 he72 a69 hE70; clear hS56 hE66
    refine l_step hE70 rfl (l_storeS (k := 0) (cs' := #[.int .i64 (((F_s_DualPoset pp0 pp1).1).1), .slice b58 ((((F_s_DualPoset pp0 pp1).1).2).length) c59]) hS71 hE70 (by kernel_rfl) rfl rfl (by kernel_rfl) rfl rfl ?_)
    intro w74 hS77 a75 hE76; clear hS71 hE70
    refine q_step (v := .int .i64 ((F_s_DualPoset pp0 pp1).2)) hE76 (y_assign rfl) rfl rfl rfl ?_; intro a79 hE80; clear hE76
    refine c_nil ?_
    have hE81 := hE80.sub (L' := [(1, .pointer (some ⟨b2, 0, none⟩)), (4, .pointer (some ⟨b67, 0, none⟩)), (5, .int .i64 ((F_s_DualPoset pp0 pp1).2))]) ⟨rfl, rfl, rfl, trivial⟩; clear hE80
    refine p_tn ?_
    refine c_seq ?_
    refine c_reg ?_
    refine q_step (v := .agg #[.int .i64 pp0, .slice pp1A pp1.length pp1C]) hE81 (y_loadS Try.underlying24 rfl (by kernel_rfl) rfl (St.row (i := 3) hS77 rfl)) rfl rfl rfl ?_; intro a82 hE83; clear hE81
    refine l_step hE83 rfl (l_call (f := 16) (argv := [.agg #[.int .i64 pp0, .slice pp1A pp1.length pp1C]]) hE83 (fun _ => cf_l_toPoset _ _) rfl rfl (d_l_toPoset pp0 pp1A pp1.length pp1C pp1 w74 (St.rdR (i := 4) hS77 rfl) (by first | omega | (simp only [marked_len]; omega) | (simp only [marked_len] at *; omega))) ?_)
    rintro _ w85 ⟨b90, c91, rfl, ho92, he89⟩ a86 hE87; clear hE83
    have hS88 := St.own hS77 he89 ho92; clear hS77
    refine l_step hE87 rfl (l_alloc (z := .agg #[.int .i64 0, .slice none 0 0]) (cs := #[.int .i64 0, .slice none 0 0]) hS88 hE87 (fun _ => by kernel_rfl) rfl rfl ?_)
    intro b93 w94 hS97 he98 a95 hE96; clear hS88 hE87
    refine l_step hE96 rfl (l_storeS (k := 0) (cs' := #[.int .i64 pp0, .slice b90 ((pp1).length) c91]) hS97 hE96 (by kernel_rfl) rfl rfl (by kernel_rfl) rfl rfl ?_)
    intro w100 hS103 a101 hE102; clear hS97 hE96
    refine c_nil ?_
    have hE105 := hE102.sub (L' := [(1, .pointer (some ⟨b2, 0, none⟩)), (4, .pointer (some ⟨b67, 0, none⟩)), (5, .int .i64 ((F_s_DualPoset pp0 pp1).2)), (6, .pointer (some ⟨b93, 0, none⟩))]) ⟨rfl, rfl, rfl, rfl, trivial⟩; clear hE102
    refine p_tn ?_
    refine c_seq ?_
    refine c_reg ?_
    refine q_step (v := .agg #[.int .i64 pp0, .slice b90 ((pp1).length) c91]) hE105 (y_loadS Try.underlying27 rfl (by kernel_rfl) rfl (St.row (i := 0) hS103 rfl)) rfl rfl rfl ?_; intro a106 hE107; clear hE105
    refine l_step hE107 rfl (l_call (f := 24) (argv := [.agg #[.int .i64 pp0, .slice b90 ((pp1).length) c91]]) hE107 (fun _ => cf_DualPoset _ _) rfl rfl (c_DualPoset pp0 b90 ((pp1).length) c91 pp1 w100 (St.rdO (i := 1) hS103 rfl)) ?_)
    rintro _ w109 ⟨b114, c115, rfl, ho116, he113⟩ a110 hE111; clear hE107
    have hf117 := DualPoset_len pp0 pp1
    have hS112 := St.own hS103 he113 ho116; clear hS103
    refine q_step (v := .tuple #[.agg #[.int .i64 (((F_DualPoset pp0 pp1).1).1), .slice b114 ((((F_DualPoset pp0 pp1).1).2).length) c115], .int .i64 ((F_DualPoset pp0 pp1).2)]) hE111 (y_move rfl) rfl rfl rfl ?_; intro a118 hE119; clear hE111
    refine q_step (v := .agg #[.int .i64 (((F_DualPoset pp0 pp1).1).1), .slice b114 ((((F_DualPoset pp0 pp1).1).2).length) c115]) hE119 (y_extract rfl rfl) rfl rfl rfl ?_; intro a120 hE121; clear hE119
    refine q_step (v := .int .i64 ((F_DualPoset pp0 pp1).2)) hE121 (y_extract rfl rfl) rfl rfl rfl ?_; intro a122 hE123; clear hE121
    refine l_step hE123 rfl (l_alloc (z := .agg #[.int .i64 0, .slice none 0 0]) (cs := #[.int .i64 0, .slice none 0 0]) hS112 hE123 (fun _ => by kernel_rfl) rfl rfl ?_)
    intro b124 w125 hS128 he129 a126 hE127; clear hS112 hE123
    refine l_step hE127 rfl (l_storeS (k := 0) (cs' := #[.int .i64 (((F_DualPoset pp0 pp1).1).1), .slice b114 ((((F_DualPoset pp0 pp1).1).2).length) c115]) hS128 hE127 (by kernel_rfl) rfl rfl (by kernel_rfl) rfl rfl ?_)
    intro w131 hS134 a132 hE133; clear hS128 hE127
    refine q_step (v := .int .i64 ((F_DualPoset pp0 pp1).2)) hE133 (y_assign rfl) rfl rfl rfl ?_; intro a136 hE137; clear hE133
    refine c_nil ?_
    have hE138 := hE137.sub (L' := [(1, .pointer (some ⟨b2, 0, none⟩)), (4, .pointer (some ⟨b67, 0, none⟩)), (5, .int .i64 ((F_s_DualPoset pp0 pp1).2)), (6, .pointer (some ⟨b93, 0, none⟩)), (7, .pointer (some ⟨b124, 0, none⟩)), (8, .int .i64 ((F_DualPoset pp0 pp1).2))]) ⟨rfl, rfl, rfl, rfl, rfl, rfl, trivial⟩; clear hE137
    refine p_tn ?_
    refine c_seq ?_
    refine c_cut (fun a' w' => E a' 96 [(1, .pointer (some ⟨b2, 0, none⟩)), (4, .pointer (some ⟨b67, 0, none⟩)), (5, .int .i64 ((F_s_DualPoset pp0 pp1).2)), (6, .pointer (some ⟨b93, 0, none⟩)), (7, .pointer (some ⟨b124, 0, none⟩)), (8, .int .i64 ((F_DualPoset pp0 pp1).2)), (40, .bool ((!(decide (((((F_DualPoset pp0 pp1).1).1), (((F_DualPoset pp0 pp1).1).2)) = ((((F_s_DualPoset pp0 pp1).1).1), (((F_s_DualPoset pp0 pp1).1).2))))) || (!decide (((F_DualPoset pp0 pp1).2) = ((F_s_DualPoset pp0 pp1).2)))))] ∧ St w w' [.own 2 1 b114 ((((F_DualPoset pp0 pp1).1).2).length) c115 (((F_DualPoset pp0 pp1).1).2), .blk b124 #[.int .i64 (((F_DualPoset pp0 pp1).1).1), .slice b114 ((((F_DualPoset pp0 pp1).1).2).length) c115] 27, .own 2 1 b90 ((pp1).length) c91 pp1, .blk b93 #[.int .i64 pp0, .slice b90 ((pp1).length) c91] 27, .own 2 1 b58 ((((F_s_DualPoset pp0 pp1).1).2).length) c59 (((F_s_DualPoset pp0 pp1).1).2), .blk b67 #[.int .i64 (((F_s_DualPoset pp0 pp1).1).1), .slice b58 ((((F_s_DualPoset pp0 pp1).1).2).length) c59] 27, .own 2 1 b49 ((pp1).length) c50 pp1, .rd 1 pp1A pp1.length pp1C pp1, .blk b2 #[.int .i64 pp0, .slice pp1A pp1.length pp1C] 24]) ?_ ?_
    ·
      refine c_reg ?_
      refine q_step (v := .agg #[.int .i64 (((F_DualPoset pp0 pp1).1).1), .slice b114 ((((F_DualPoset pp0 pp1).1).2).length) c115]) hE138 (y_loadS Try.underlying27 rfl (by kernel_rfl) rfl (St.row (i := 0) hS134 rfl)) rfl rfl rfl ?_; intro a139 hE140; clear hE138
      refine q_step (v := .agg #[.int .i64 (((F_s_DualPoset pp0 pp1).1).1), .slice b58 ((((F_s_DualPoset pp0 pp1).1).2).length) c59]) hE140 (y_loadS Try.underlying27 rfl (by kernel_rfl) rfl (St.row (i := 4) hS134 rfl)) rfl rfl rfl ?_; intro a141 hE142; clear hE140
      refine l_step hE142 rfl (l_call (f := 18) (argv := [.agg #[.int .i64 (((F_DualPoset pp0 pp1).1).1), .slice b114 ((((F_DualPoset pp0 pp1).1).2).length) c115], .agg #[.int .i64 (((F_s_DualPoset pp0 pp1).1).1), .slice b58 ((((F_s_DualPoset pp0 pp1).1).2).length) c59]]) hE142 (fun _ => cf_l_eqPoset _ _) rfl rfl (d_l_eqPoset (((F_DualPoset pp0 pp1).1).1) b114 ((((F_DualPoset pp0 pp1).1).2).length) c115 (((F_DualPoset pp0 pp1).1).2) (((F_s_DualPoset pp0 pp1).1).1) b58 ((((F_s_DualPoset pp0 pp1).1).2).length) c59 (((F_s_DualPoset pp0 pp1).1).2) w131 (St.rdO (i := 1) hS134 rfl) (St.rdO (i := 5) hS134 rfl)) ?_)
      rintro _ w144 ⟨rfl, he148⟩ a145 hE146; clear hE142
      have hS147 := St.go hS134 he148; clear hS134
      refine q_step (v := .bool (!(decide (((((F_DualPoset pp0 pp1).1).1), (((F_DualPoset pp0 pp1).1).2)) = ((((F_s_DualPoset pp0 pp1).1).1), (((F_s_DualPoset pp0 pp1).1).2)))))) hE146 (y_not rfl) rfl rfl rfl ?_; intro a149 hE150; clear hE146
      refine q_step (v := .bool (!(decide (((((F_DualPoset pp0 pp1).1).1), (((F_DualPoset pp0 pp1).1).2)) = ((((F_s_DualPoset pp0 pp1).1).1), (((F_s_DualPoset pp0 pp1).1).2)))))) hE150 (y_move rfl) rfl rfl rfl ?_; intro a151 hE152; clear hE150
      rcases Bool.eq_false_or_eq_true (!(decide (((((F_DualPoset pp0 pp1).1).1), (((F_DualPoset pp0 pp1).1).2)) = ((((F_s_DualPoset pp0 pp1).1).1), (((F_s_DualPoset pp0 pp1).1).2))))) with hb153 | hb153
      ·
        have hE154 := hE152; rw [hb153] at hE154; clear hE152
        have ht155 := bn_t hb153
        have hp156 := of_decide_eq_false ht155
        refine q_skip hE154 rfl rfl rfl ?_; intro a157 hE158; clear hE154
        refine q_skip hE158 rfl rfl rfl ?_; intro a159 hE160; clear hE158
        refine q_skip hE160 rfl rfl rfl ?_; intro a161 hE162; clear hE160
        refine q_step (v := .bool true) hE162 (y_pick (b := true) rfl rfl) rfl rfl rfl ?_; intro a163 hE164; clear hE162
        refine c_nil ?_
        have hE165 := hE164.sub (L' := [(1, .pointer (some ⟨b2, 0, none⟩)), (4, .pointer (some ⟨b67, 0, none⟩)), (5, .int .i64 ((F_s_DualPoset pp0 pp1).2)), (6, .pointer (some ⟨b93, 0, none⟩)), (7, .pointer (some ⟨b124, 0, none⟩)), (8, .int .i64 ((F_DualPoset pp0 pp1).2)), (40, .bool true)]) ⟨rfl, rfl, rfl, rfl, rfl, rfl, rfl, trivial⟩; clear hE164
        refine p_tn ?_
        have hE166 := hE165.sub (L' := [(1, .pointer (some ⟨b2, 0, none⟩)), (4, .pointer (some ⟨b67, 0, none⟩)), (5, .int .i64 ((F_s_DualPoset pp0 pp1).2)), (6, .pointer (some ⟨b93, 0, none⟩)), (7, .pointer (some ⟨b124, 0, none⟩)), (8, .int .i64 ((F_DualPoset pp0 pp1).2)), (40, .bool true)]) ⟨rfl, rfl, rfl, rfl, rfl, rfl, rfl, trivial⟩
        have hS167 := (St.pick (Γ' := [.own 2 1 b114 ((((F_DualPoset pp0 pp1).1).2).length) c115 (((F_DualPoset pp0 pp1).1).2), .blk b124 #[.int .i64 (((F_DualPoset pp0 pp1).1).1), .slice b114 ((((F_DualPoset pp0 pp1).1).2).length) c115] 27, .own 2 1 b90 ((pp1).length) c91 pp1, .blk b93 #[.int .i64 pp0, .slice b90 ((pp1).length) c91] 27, .own 2 1 b58 ((((F_s_DualPoset pp0 pp1).1).2).length) c59 (((F_s_DualPoset pp0 pp1).1).2), .blk b67 #[.int .i64 (((F_s_DualPoset pp0 pp1).1).1), .slice b58 ((((F_s_DualPoset pp0 pp1).1).2).length) c59] 27, .own 2 1 b49 ((pp1).length) c50 pp1, .rd 1 pp1A pp1.length pp1C pp1, .blk b2 #[.int .i64 pp0, .slice pp1A pp1.length pp1C] 24]) hS147 [1, 0, 3, 2, 5, 4, 6, 8, 7] (by decide) rfl)
        exact ⟨(by rw [hb153]; exact hE166), hS167⟩
      ·
        have hE168 := hE152; rw [hb153] at hE168; clear hE152
        have ht169 := bn_f hb153
        have hp170 := of_decide_eq_true ht169
        refine q_step (v := .int .i64 ((F_DualPoset pp0 pp1).2)) hE168 (y_move rfl) rfl rfl rfl ?_; intro a171 hE172; clear hE168
        refine q_step (v := .int .i64 ((F_s_DualPoset pp0 pp1).2)) hE172 (y_move rfl) rfl rfl rfl ?_; intro a173 hE174; clear hE172
        refine q_step (v := .bool (!decide (((F_DualPoset pp0 pp1).2) = ((F_s_DualPoset pp0 pp1).2)))) hE174 (y_neq rfl rfl) rfl rfl rfl ?_; intro a175 hE176; clear hE174
        refine q_step (v := .bool (!decide (((F_DualPoset pp0 pp1).2) = ((F_s_DualPoset pp0 pp1).2)))) hE176 (y_pick (b := false) rfl rfl) rfl rfl rfl ?_; intro a177 hE178; clear hE176
        refine c_nil ?_
        have hE179 := hE178.sub (L' := [(1, .pointer (some ⟨b2, 0, none⟩)), (4, .pointer (some ⟨b67, 0, none⟩)), (5, .int .i64 ((F_s_DualPoset pp0 pp1).2)), (6, .pointer (some ⟨b93, 0, none⟩)), (7, .pointer (some ⟨b124, 0, none⟩)), (8, .int .i64 ((F_DualPoset pp0 pp1).2)), (40, .bool (!decide (((F_DualPoset pp0 pp1).2) = ((F_s_DualPoset pp0 pp1).2))))]) ⟨rfl, rfl, rfl, rfl, rfl, rfl, rfl, trivial⟩; clear hE178
        refine p_tn ?_
        have hE180 := hE179.sub (L' := [(1, .pointer (some ⟨b2, 0, none⟩)), (4, .pointer (some ⟨b67, 0, none⟩)), (5, .int .i64 ((F_s_DualPoset pp0 pp1).2)), (6, .pointer (some ⟨b93, 0, none⟩)), (7, .pointer (some ⟨b124, 0, none⟩)), (8, .int .i64 ((F_DualPoset pp0 pp1).2)), (40, .bool (!decide (((F_DualPoset pp0 pp1).2) = ((F_s_DualPoset pp0 pp1).2))))]) ⟨rfl, rfl, rfl, rfl, rfl, rfl, rfl, trivial⟩
        have hS181 := (St.pick (Γ' := [.own 2 1 b114 ((((F_DualPoset pp0 pp1).1).2).length) c115 (((F_DualPoset pp0 pp1).1).2), .blk b124 #[.int .i64 (((F_DualPoset pp0 pp1).1).1), .slice b114 ((((F_DualPoset pp0 pp1).1).2).length) c115] 27, .own 2 1 b90 ((pp1).length) c91 pp1, .blk b93 #[.int .i64 pp0, .slice b90 ((pp1).length) c91] 27, .own 2 1 b58 ((((F_s_DualPoset pp0 pp1).1).2).length) c59 (((F_s_DualPoset pp0 pp1).1).2), .blk b67 #[.int .i64 (((F_s_DualPoset pp0 pp1).1).1), .slice b58 ((((F_s_DualPoset pp0 pp1).1).2).length) c59] 27, .own 2 1 b49 ((pp1).length) c50 pp1, .rd 1 pp1A pp1.length pp1C pp1, .blk b2 #[.int .i64 pp0, .slice pp1A pp1.length pp1C] 24]) hS147 [1, 0, 3, 2, 5, 4, 6, 8, 7] (by decide) rfl)
        exact ⟨(by rw [hb153]; exact hE180), hS181⟩
    ·
      rintro a182 w183 ⟨hE184, hS185⟩; clear hE138 hS134
      refine c_cond hE184 rfl (fun ht187 => ?_) (fun ht187 => ?_)
      ·
        have hE188 := hE184; rw [ht187] at hE188; clear hE184
        refine c_seq ?_
        refine c_reg ?_
        refine q_step (v := .bool false) hE188 (y_assign rfl) rfl rfl rfl ?_; intro a189 hE190; clear hE188
        refine c_nil ?_
        have hE191 := hE190.sub (L' := [(2, .bool false)]) ⟨rfl, trivial⟩; clear hE190
        refine p_tn ?_
        refine wp_ret ?_
        refine p_tr ?_
        have hF : F_l_FnExactDualPoset pp0 pp1 = false := by unfold F_l_FnExactDualPoset; rw [ht187, ht32]; first | done | rfl
        refine c_ret1 hE191 rfl rfl ?_
        exact ⟨(by rw [hF]; first | done | rfl), hS185.ext⟩
      ·
        obtain ⟨ht192, ht193⟩ := bor_f ht187
        have ht194 := bn_f ht192
        have hp195 := of_decide_eq_true ht194
        have ht196 := bn_f ht193
        have hp197 := of_decide_eq_true ht196
        have hE198 := hE184; rw [ht187] at hE198; clear hE184
        refine wp_skip ?_
        refine p_tn ?_
        refine c_seq ?_
        refine c_seq ?_
        refine d_start (fun w w' => (fun w' => w'.heap[b93]? = some (.cells #[.int .i64 pp0, .slice b90 ((pp1).length) c91] 27 (0, 0)) ∧ w'.heap[b2]? = some (.cells #[.int .i64 pp0, .slice pp1A pp1.length pp1C] 24 (0, 0)) ∧ True) w → (fun w' => w'.heap[b93]? = some (.cells #[.int .i64 pp0, .slice b90 ((pp1).length) c91] 27 (0, 0)) ∧ w'.heap[b2]? = some (.cells #[.int .i64 pp0, .slice pp1A pp1.length pp1C] 24 (0, 0)) ∧ True) w') [0, 1] 5 (by kernel_rfl) rfl ?_
        intro w199 he200; have hS201 := St.go hS185 he200; clear hS185
        refine d_take (fun _ h => h) (fun _ _ h k => h k) (v := .agg #[.int .i64 pp0, .slice b90 ((pp1).length) c91]) 0 rfl hE198 (S := fun w' => w'.heap[b93]? = some (.cells #[.int .i64 pp0, .slice b90 ((pp1).length) c91] 27 (0, 0)) ∧ w'.heap[b2]? = some (.cells #[.int .i64 pp0, .slice pp1A pp1.length pp1C] 24 (0, 0)) ∧ True) ⟨(St.row (i := 3) hS201 rfl _ (Ext.refl _)), (St.row (i := 8) hS201 rfl _ (Ext.refl _)), trivial⟩ (y_loadS Try.underlying27 rfl (by kernel_rfl) rfl (fun _ h => h.1)) rfl rfl (by kernel_rfl) (by kernel_rfl) (by kernel_rfl) (by kernel_rfl) rfl rfl (fun _ _ _ h => h) ?_; intro a202 hE203; clear hE198
        refine d_take (fun _ h => h) (fun _ _ h k => h k) (v := .agg #[.int .i64 pp0, .slice pp1A pp1.length pp1C]) 1 rfl hE203 (S := fun w' => w'.heap[b93]? = some (.cells #[.int .i64 pp0, .slice b90 ((pp1).length) c91] 27 (0, 0)) ∧ w'.heap[b2]? = some (.cells #[.int .i64 pp0, .slice pp1A pp1.length pp1C] 24 (0, 0)) ∧ True) ⟨(St.row (i := 3) hS201 rfl _ (Ext.refl _)), (St.row (i := 8) hS201 rfl _ (Ext.refl _)), trivial⟩ (y_loadS Try.underlying24 rfl (by kernel_rfl) rfl (fun _ h => h.2.1)) rfl rfl (by kernel_rfl) (by kernel_rfl) (by kernel_rfl) (by kernel_rfl) rfl rfl (fun _ _ _ h => h) ?_; intro a204 hE205; clear hE203
        refine d_only 2 (by kernel_rfl) rfl hE205 rfl (l_call (f := 16) (argv := [.agg #[.int .i64 pp0, .slice pp1A pp1.length pp1C]]) hE205 (fun _ => cf_l_toPoset _ _) rfl rfl (d_l_toPoset pp0 pp1A pp1.length pp1C pp1 w199 (St.rdR (i := 7) hS201 rfl) (by first | omega | (simp only [marked_len]; omega) | (simp only [marked_len] at *; omega))) ?_)
        rintro _ w207 ⟨b212, c213, rfl, ho214, he211⟩ a208 hE209; clear hE205
        have hS210 := St.own hS201 he211 ho214; clear hS201
        refine ⟨fun _ _ => ⟨(St.row (i := 4) hS210 rfl _ (Ext.refl _)), (St.row (i := 9) hS210 rfl _ (Ext.refl _)), trivial⟩, ?_⟩
        refine d_only 3 (by kernel_rfl) rfl hE209 rfl (l_call (f := 18) (argv := [.agg #[.int .i64 pp0, .slice b90 ((pp1).length) c91], .agg #[.int .i64 pp0, .slice b212 ((pp1).length) c213]]) hE209 (fun _ => cf_l_eqPoset _ _) rfl rfl (d_l_eqPoset pp0 b90 ((pp1).length) c91 pp1 pp0 b212 ((pp1).length) c213 pp1 w207 (St.rdO (i := 3) hS210 rfl) (St.rdO (i := 0) hS210 rfl)) ?_)
        rintro _ w216 ⟨rfl, he220⟩ a217 hE218; clear hE209
        have hS219 := St.go hS210 he220; clear hS210
        refine ⟨fun h => Bool.noConfusion (h.symm.trans (show exm _ _ _ = true by kernel_rfl)), ?_⟩
        refine d_pure (fun _ h => h) (v := .bool (!(decide ((pp0, pp1) = (pp0, pp1))))) 4 rfl hE218 (y_not rfl) rfl (by kernel_rfl) (by kernel_rfl) (by kernel_rfl) rfl rfl (fun _ _ _ h => h) ?_; intro a221 hE222; clear hE218
        refine d_done (by kernel_rfl) ?_
        have hE223 := hE222.sub (L' := [(1, .pointer (some ⟨b2, 0, none⟩)), (4, .pointer (some ⟨b67, 0, none⟩)), (5, .int .i64 ((F_s_DualPoset pp0 pp1).2)), (6, .pointer (some ⟨b93, 0, none⟩)), (7, .pointer (some ⟨b124, 0, none⟩)), (8, .int .i64 ((F_DualPoset pp0 pp1).2)), (45, .bool (!(decide ((pp0, pp1) = (pp0, pp1)))))]) ⟨rfl, rfl, rfl, rfl, rfl, rfl, rfl, trivial⟩; clear hE222
        refine p_tn ?_
        refine c_cond hE223 rfl (fun ht224 => ?_) (fun ht224 => ?_)
        ·
          have ht225 := bn_t ht224
          have hp226 := of_decide_eq_false ht225
          have hE227 := hE223; rw [ht224] at hE227; clear hE223
          refine c_seq ?_
          refine c_reg ?_
          refine q_step (v := .bool false) hE227 (y_assign rfl) rfl rfl rfl ?_; intro a228 hE229; clear hE227
          refine c_nil ?_
          have hE230 := hE229.sub (L' := [(2, .bool false)]) ⟨rfl, trivial⟩; clear hE229
          refine p_tn ?_
          refine wp_ret ?_
          refine p_tr ?_
          have hF : F_l_FnExactDualPoset pp0 pp1 = false := by unfold F_l_FnExactDualPoset; rw [ht224, ht187, ht32]; first | done | rfl
          refine c_ret1 hE230 rfl rfl ?_
          exact ⟨(by rw [hF]; first | done | rfl), hS219.ext⟩
        ·
          have ht231 := bn_f ht224
          have hp232 := of_decide_eq_true ht231
          have hE233 := hE223; rw [ht224] at hE233; clear hE223
          refine wp_skip ?_
          refine p_tn ?_
          refine c_seq ?_
          refine c_reg ?_
          refine q_step (v := .int .i64 1) hE233 (y_assign rfl) rfl rfl rfl ?_; intro a234 hE235; clear hE233
          refine c_nil ?_
          have hE236 := hE235.sub (L' := [(1, .pointer (some ⟨b2, 0, none⟩)), (4, .pointer (some ⟨b67, 0, none⟩)), (5, .int .i64 ((F_s_DualPoset pp0 pp1).2)), (6, .pointer (some ⟨b93, 0, none⟩)), (7, .pointer (some ⟨b124, 0, none⟩)), (8, .int .i64 ((F_DualPoset pp0 pp1).2)), (9, .int .i64 1)]) ⟨rfl, rfl, rfl, rfl, rfl, rfl, rfl, trivial⟩; clear hE235
          refine p_tn ?_
          refine c_seq ?_
          refine c_reg ?_
          refine q_step (v := .agg #[.int .i64 pp0, .slice b90 ((pp1).length) c91]) hE236 (y_loadS Try.underlying27 rfl (by kernel_rfl) rfl (St.row (i := 4) hS219 rfl)) rfl rfl rfl ?_; intro a237 hE238; clear hE236
          refine q_step (v := .int .i64 1) hE238 (y_move rfl) rfl rfl rfl ?_; intro a239 hE240; clear hE238
          have hS247 := (St.pick (Γ' := [.own 2 1 b90 ((pp1).length) c91 pp1, .own 2 1 b212 ((pp1).length) c213 pp1, .own 2 1 b114 ((((F_DualPoset pp0 pp1).1).2).length) c115 (((F_DualPoset pp0 pp1).1).2), .blk b124 #[.int .i64 (((F_DualPoset pp0 pp1).1).1), .slice b114 ((((F_DualPoset pp0 pp1).1).2).length) c115] 27, .blk b93 #[.int .i64 pp0, .slice b90 ((pp1).length) c91] 27, .own 2 1 b58 ((((F_s_DualPoset pp0 pp1).1).2).length) c59 (((F_s_DualPoset pp0 pp1).1).2), .blk b67 #[.int .i64 (((F_s_DualPoset pp0 pp1).1).1), .slice b58 ((((F_s_DualPoset pp0 pp1).1).2).length) c59] 27, .own 2 1 b49 ((pp1).length) c50 pp1, .rd 1 pp1A pp1.length pp1C pp1, .blk b2 #[.int .i64 pp0, .slice pp1A pp1.length pp1C] 24]) hS219 [3, 0, 1, 2, 4, 5, 6, 7, 8, 9] (by decide) rfl); clear hS219
          refine l_step hE240 rfl (l_call (f := 25) (argv := [.agg #[.int .i64 pp0, .slice b90 ((pp1).length) c91], .int .i64 1]) hE240 (fun _ => cf_l_markPoset _ _) rfl rfl (d_l_markPoset pp0 b90 ((pp1).length) c91 pp1 1 w216 w [.own 2 1 b212 ((pp1).length) c213 pp1, .own 2 1 b114 ((((F_DualPoset pp0 pp1).1).2).length) c115 (((F_DualPoset pp0 pp1).1).2), .blk b124 #[.int .i64 (((F_DualPoset pp0 pp1).1).1), .slice b114 ((((F_DualPoset pp0 pp1).1).2).length) c115] 27, .blk b93 #[.int .i64 pp0, .slice b90 ((pp1).length) c91] 27, .own 2 1 b58 ((((F_s_DualPoset pp0 pp1).1).2).length) c59 (((F_s_DualPoset pp0 pp1).1).2), .blk b67 #[.int .i64 (((F_s_DualPoset pp0 pp1).1).1), .slice b58 ((((F_s_DualPoset pp0 pp1).1).2).length) c59] 27, .own 2 1 b49 ((pp1).length) c50 pp1, .rd 1 pp1A pp1.length pp1C pp1, .blk b2 #[.int .i64 pp0, .slice pp1A pp1.length pp1C] 24] hS247 (by first | omega | (simp only [marked_len]; omega) | (simp only [marked_len] at *; omega)) (by first | omega | (simp only [marked_len]; omega) | (simp only [marked_len] at *; omega)) (by first | omega | (simp only [marked_len]; omega) | (simp only [marked_len] at *; omega))) ?_)
          rintro _ w242 ⟨rfl, hS245⟩ a243 hE244; clear hE240 hS247
          refine q_step (v := .int .i64 (1 + (pp1.length : Int))) hE244 (y_assign rfl) rfl rfl rfl ?_; intro a248 hE249; clear hE244
          refine c_nil ?_
          have hE250 := hE249.sub (L' := [(1, .pointer (some ⟨b2, 0, none⟩)), (4, .pointer (some ⟨b67, 0, none⟩)), (5, .int .i64 ((F_s_DualPoset pp0 pp1).2)), (7, .pointer (some ⟨b124, 0, none⟩)), (8, .int .i64 ((F_DualPoset pp0 pp1).2)), (9, .int .i64 (1 + (pp1.length : Int)))]) ⟨rfl, rfl, rfl, rfl, rfl, rfl, trivial⟩; clear hE249
          refine p_tn ?_
          refine c_seq ?_
          refine c_cut (fun a' w' => E a' 96 [(1, .pointer (some ⟨b2, 0, none⟩)), (4, .pointer (some ⟨b67, 0, none⟩)), (5, .int .i64 ((F_s_DualPoset pp0 pp1).2)), (7, .pointer (some ⟨b124, 0, none⟩)), (61, .bool ((decide ((1 + (pp1.length : Int)) < 0)) || ((!(decide (((((F_DualPoset pp0 pp1).1).1), (((F_DualPoset pp0 pp1).1).2)) = ((((F_s_DualPoset pp0 pp1).1).1), (((F_s_DualPoset pp0 pp1).1).2))))) || (!decide (((F_DualPoset pp0 pp1).2) = ((F_s_DualPoset pp0 pp1).2))))))] ∧ St w w' [.own 2 1 b90 ((pp1).length) c91 (marked pp1.length 1), .own 2 1 b212 ((pp1).length) c213 pp1, .own 2 1 b114 ((((F_DualPoset pp0 pp1).1).2).length) c115 (((F_DualPoset pp0 pp1).1).2), .blk b124 #[.int .i64 (((F_DualPoset pp0 pp1).1).1), .slice b114 ((((F_DualPoset pp0 pp1).1).2).length) c115] 27, .blk b93 #[.int .i64 pp0, .slice b90 ((pp1).length) c91] 27, .own 2 1 b58 ((((F_s_DualPoset pp0 pp1).1).2).length) c59 (((F_s_DualPoset pp0 pp1).1).2), .blk b67 #[.int .i64 (((F_s_DualPoset pp0 pp1).1).1), .slice b58 ((((F_s_DualPoset pp0 pp1).1).2).length) c59] 27, .own 2 1 b49 ((pp1).length) c50 pp1, .rd 1 pp1A pp1.length pp1C pp1, .blk b2 #[.int .i64 pp0, .slice pp1A pp1.length pp1C] 24]) ?_ ?_
          ·
            refine c_reg ?_
            refine q_step (v := .int .i64 (1 + (pp1.length : Int))) hE250 (y_move rfl) rfl rfl rfl ?_; intro a251 hE252; clear hE250
            refine q_step (v := .bool (decide ((1 + (pp1.length : Int)) < 0))) hE252 (y_lss rfl rfl) rfl rfl rfl ?_; intro a253 hE254; clear hE252
            refine q_step (v := .bool (decide ((1 + (pp1.length : Int)) < 0))) hE254 (y_move rfl) rfl rfl rfl ?_; intro a255 hE256; clear hE254
            rcases Bool.eq_false_or_eq_true (decide ((1 + (pp1.length : Int)) < 0)) with hb257 | hb257
            ·
              have hE258 := hE256; rw [hb257] at hE258; clear hE256
              have hp259 := of_decide_eq_true hb257
              refine q_skip hE258 rfl rfl rfl ?_; intro a260 hE261; clear hE258
              refine q_skip hE261 rfl rfl rfl ?_; intro a262 hE263; clear hE261
              refine q_skip hE263 rfl rfl rfl ?_; intro a264 hE265; clear hE263
              refine q_skip hE265 rfl rfl rfl ?_; intro a266 hE267; clear hE265
              refine q_step (v := .bool true) hE267 (y_pick (b := true) rfl rfl) rfl rfl rfl ?_; intro a268 hE269; clear hE267
              refine q_step (v := .bool true) hE269 (y_move rfl) rfl rfl rfl ?_; intro a270 hE271; clear hE269
              refine q_skip hE271 rfl rfl rfl ?_; intro a272 hE273; clear hE271
              refine q_skip hE273 rfl rfl rfl ?_; intro a274 hE275; clear hE273
              refine q_skip hE275 rfl rfl rfl ?_; intro a276 hE277; clear hE275
              refine q_step (v := .bool true) hE277 (y_pick (b := true) rfl rfl) rfl rfl rfl ?_; intro a278 hE279; clear hE277
              refine c_nil ?_
              have hE280 := hE279.sub (L' := [(1, .pointer (some ⟨b2, 0, none⟩)), (4, .pointer (some ⟨b67, 0, none⟩)), (5, .int .i64 ((F_s_DualPoset pp0 pp1).2)), (7, .pointer (some ⟨b124, 0, none⟩)), (61, .bool true)]) ⟨rfl, rfl, rfl, rfl, rfl, trivial⟩; clear hE279
              refine p_tn ?_
              have hE281 := hE280.sub (L' := [(1, .pointer (some ⟨b2, 0, none⟩)), (4, .pointer (some ⟨b67, 0, none⟩)), (5, .int .i64 ((F_s_DualPoset pp0 pp1).2)), (7, .pointer (some ⟨b124, 0, none⟩)), (61, .bool true)]) ⟨rfl, rfl, rfl, rfl, rfl, trivial⟩
              have hS282 := (St.pick (Γ' := [.own 2 1 b90 ((pp1).length) c91 (marked pp1.length 1), .own 2 1 b212 ((pp1).length) c213 pp1, .own 2 1 b114 ((((F_DualPoset pp0 pp1).1).2).length) c115 (((F_DualPoset pp0 pp1).1).2), .blk b124 #[.int .i64 (((F_DualPoset pp0 pp1).1).1), .slice b114 ((((F_DualPoset pp0 pp1).1).2).length) c115] 27, .blk b93 #[.int .i64 pp0, .slice b90 ((pp1).length) c91] 27, .own 2 1 b58 ((((F_s_DualPoset pp0 pp1).1).2).length) c59 (((F_s_DualPoset pp0 pp1).1).2), .blk b67 #[.int .i64 (((F_s_DualPoset pp0 pp1).1).1), .slice b58 ((((F_s_DualPoset pp0 pp1).1).2).length) c59] 27, .own 2 1 b49 ((pp1).length) c50 pp1, .rd 1 pp1A pp1.length pp1C pp1, .blk b2 #[.int .i64 pp0, .slice pp1A pp1.length pp1C] 24]) hS245 [0, 1, 2, 3, 4, 5, 6, 7, 8, 9] (by decide) rfl)
              exact ⟨(by rw [hb257]; exact hE281), hS282⟩
            ·
              have hE283 := hE256; rw [hb257] at hE283; clear hE256
              have hp284 := of_decide_eq_false hb257
              refine q_step (v := .agg #[.int .i64 (((F_DualPoset pp0 pp1).1).1), .slice b114 ((((F_DualPoset pp0 pp1).1).2).length) c115]) hE283 (y_loadS Try.underlying27 rfl (by kernel_rfl) rfl (St.row (i := 3) hS245 rfl)) rfl rfl rfl ?_; intro a285 hE286; clear hE283
              refine q_step (v := .agg #[.int .i64 (((F_s_DualPoset pp0 pp1).1).1), .slice b58 ((((F_s_DualPoset pp0 pp1).1).2).length) c59]) hE286 (y_loadS Try.underlying27 rfl (by kernel_rfl) rfl (St.row (i := 6) hS245 rfl)) rfl rfl rfl ?_; intro a287 hE288; clear hE286
              refine l_step hE288 rfl (l_call (f := 18) (argv := [.agg #[.int .i64 (((F_DualPoset pp0 pp1).1).1), .slice b114 ((((F_DualPoset pp0 pp1).1).2).length) c115], .agg #[.int .i64 (((F_s_DualPoset pp0 pp1).1).1), .slice b58 ((((F_s_DualPoset pp0 pp1).1).2).length) c59]]) hE288 (fun _ => cf_l_eqPoset _ _) rfl rfl (d_l_eqPoset (((F_DualPoset pp0 pp1).1).1) b114 ((((F_DualPoset pp0 pp1).1).2).length) c115 (((F_DualPoset pp0 pp1).1).2) (((F_s_DualPoset pp0 pp1).1).1) b58 ((((F_s_DualPoset pp0 pp1).1).2).length) c59 (((F_s_DualPoset pp0 pp1).1).2) w242 (St.rdO (i := 2) hS245 rfl) (St.rdO (i := 5) hS245 rfl)) ?_)
              rintro _ w290 ⟨rfl, he294⟩ a291 hE292; clear hE288
              have hS293 := St.go hS245 he294; clear hS245
              refine q_step (v := .bool (!(decide (((((F_DualPoset pp0 pp1).1).1), (((F_DualPoset pp0 pp1).1).2)) = ((((F_s_DualPoset pp0 pp1).1).1), (((F_s_DualPoset pp0 pp1).1).2)))))) hE292 (y_not rfl) rfl rfl rfl ?_; intro a295 hE296; clear hE292
              refine q_step (v := .bool (!(decide (((((F_DualPoset pp0 pp1).1).1), (((F_DualPoset pp0 pp1).1).2)) = ((((F_s_DualPoset pp0 pp1).1).1), (((F_s_DualPoset pp0 pp1).1).2)))))) hE296 (y_pick (b := false) rfl rfl) rfl rfl rfl ?_; intro a297 hE298; clear hE296
              refine q_step (v := .bool (!(decide (((((F_DualPoset pp0 pp1).1).1), (((F_DualPoset pp0 pp1).1).2)) = ((((F_s_DualPoset pp0 pp1).1).1), (((F_s_DualPoset pp0 pp1).1).2)))))) hE298 (y_move rfl) rfl rfl rfl ?_; intro a299 hE300; clear hE298
              rcases Bool.eq_false_or_eq_true (!(decide (((((F_DualPoset pp0 pp1).1).1), (((F_DualPoset pp0 pp1).1).2)) = ((((F_s_DualPoset pp0 pp1).1).1), (((F_s_DualPoset pp0 pp1).1).2))))) with hb301 | hb301
              ·
                have hE302 := hE300; rw [hb301] at hE302; clear hE300
                have ht303 := bn_t hb301
                have hp304 := of_decide_eq_false ht303
                refine q_skip hE302 rfl rfl rfl ?_; intro a305 hE306; clear hE302
                refine q_skip hE306 rfl rfl rfl ?_; intro a307 hE308; clear hE306
                refine q_skip hE308 rfl rfl rfl ?_; intro a309 hE310; clear hE308
                refine q_step (v := .bool true) hE310 (y_pick (b := true) rfl rfl) rfl rfl rfl ?_; intro a311 hE312; clear hE310
                refine c_nil ?_
                have hE313 := hE312.sub (L' := [(1, .pointer (some ⟨b2, 0, none⟩)), (4, .pointer (some ⟨b67, 0, none⟩)), (5, .int .i64 ((F_s_DualPoset pp0 pp1).2)), (7, .pointer (some ⟨b124, 0, none⟩)), (61, .bool true)]) ⟨rfl, rfl, rfl, rfl, rfl, trivial⟩; clear hE312
                refine p_tn ?_
                have hE314 := hE313.sub (L' := [(1, .pointer (some ⟨b2, 0, none⟩)), (4, .pointer (some ⟨b67, 0, none⟩)), (5, .int .i64 ((F_s_DualPoset pp0 pp1).2)), (7, .pointer (some ⟨b124, 0, none⟩)), (61, .bool true)]) ⟨rfl, rfl, rfl, rfl, rfl, trivial⟩
                have hS315 := (St.pick (Γ' := [.own 2 1 b90 ((pp1).length) c91 (marked pp1.length 1), .own 2 1 b212 ((pp1).length) c213 pp1, .own 2 1 b114 ((((F_DualPoset pp0 pp1).1).2).length) c115 (((F_DualPoset pp0 pp1).1).2), .blk b124 #[.int .i64 (((F_DualPoset pp0 pp1).1).1), .slice b114 ((((F_DualPoset pp0 pp1).1).2).length) c115] 27, .blk b93 #[.int .i64 pp0, .slice b90 ((pp1).length) c91] 27, .own 2 1 b58 ((((F_s_DualPoset pp0 pp1).1).2).length) c59 (((F_s_DualPoset pp0 pp1).1).2), .blk b67 #[.int .i64 (((F_s_DualPoset pp0 pp1).1).1), .slice b58 ((((F_s_DualPoset pp0 pp1).1).2).length) c59] 27, .own 2 1 b49 ((pp1).length) c50 pp1, .rd 1 pp1A pp1.length pp1C pp1, .blk b2 #[.int .i64 pp0, .slice pp1A pp1.length pp1C] 24]) hS293 [0, 1, 2, 3, 4, 5, 6, 7, 8, 9] (by decide) rfl)
                exact ⟨(by rw [hb301, hb257]; exact hE314), hS315⟩
              ·
                have hE316 := hE300; rw [hb301] at hE316; clear hE300
                have ht317 := bn_f hb301
                have hp318 := of_decide_eq_true ht317
                refine q_step (v := .int .i64 ((F_DualPoset pp0 pp1).2)) hE316 (y_move rfl) rfl rfl rfl ?_; intro a319 hE320; clear hE316
                refine q_step (v := .int .i64 ((F_s_DualPoset pp0 pp1).2)) hE320 (y_move rfl) rfl rfl rfl ?_; intro a321 hE322; clear hE320
                refine q_step (v := .bool (!decide (((F_DualPoset pp0 pp1).2) = ((F_s_DualPoset pp0 pp1).2)))) hE322 (y_neq rfl rfl) rfl rfl rfl ?_; intro a323 hE324; clear hE322
                refine q_step (v := .bool (!decide (((F_DualPoset pp0 pp1).2) = ((F_s_DualPoset pp0 pp1).2)))) hE324 (y_pick (b := false) rfl rfl) rfl rfl rfl ?_; intro a325 hE326; clear hE324
                refine c_nil ?_
                have hE327 := hE326.sub (L' := [(1, .pointer (some ⟨b2, 0, none⟩)), (4, .pointer (some ⟨b67, 0, none⟩)), (5, .int .i64 ((F_s_DualPoset pp0 pp1).2)), (7, .pointer (some ⟨b124, 0, none⟩)), (61, .bool (!decide (((F_DualPoset pp0 pp1).2) = ((F_s_DualPoset pp0 pp1).2))))]) ⟨rfl, rfl, rfl, rfl, rfl, trivial⟩; clear hE326
                refine p_tn ?_
                have hE328 := hE327.sub (L' := [(1, .pointer (some ⟨b2, 0, none⟩)), (4, .pointer (some ⟨b67, 0, none⟩)), (5, .int .i64 ((F_s_DualPoset pp0 pp1).2)), (7, .pointer (some ⟨b124, 0, none⟩)), (61, .bool (!decide (((F_DualPoset pp0 pp1).2) = ((F_s_DualPoset pp0 pp1).2))))]) ⟨rfl, rfl, rfl, rfl, rfl, trivial⟩
                have hS329 := (St.pick (Γ' := [.own 2 1 b90 ((pp1).length) c91 (marked pp1.length 1), .own 2 1 b212 ((pp1).length) c213 pp1, .own 2 1 b114 ((((F_DualPoset pp0 pp1).1).2).length) c115 (((F_DualPoset pp0 pp1).1).2), .blk b124 #[.int .i64 (((F_DualPoset pp0 pp1).1).1), .slice b114 ((((F_DualPoset pp0 pp1).1).2).length) c115] 27, .blk b93 #[.int .i64 pp0, .slice b90 ((pp1).length) c91] 27, .own 2 1 b58 ((((F_s_DualPoset pp0 pp1).1).2).length) c59 (((F_s_DualPoset pp0 pp1).1).2), .blk b67 #[.int .i64 (((F_s_DualPoset pp0 pp1).1).1), .slice b58 ((((F_s_DualPoset pp0 pp1).1).2).length) c59] 27, .own 2 1 b49 ((pp1).length) c50 pp1, .rd 1 pp1A pp1.length pp1C pp1, .blk b2 #[.int .i64 pp0, .slice pp1A pp1.length pp1C] 24]) hS293 [0, 1, 2, 3, 4, 5, 6, 7, 8, 9] (by decide) rfl)
                exact ⟨(by rw [hb301, hb257]; exact hE328), hS329⟩
          ·
            rintro a330 w331 ⟨hE332, hS333⟩; clear hE250 hS245
            refine c_cond hE332 rfl (fun ht335 => ?_) (fun ht335 => ?_)
            ·
              have hE336 := hE332; rw [ht335] at hE336; clear hE332
              refine c_seq ?_
              refine c_reg ?_
              refine q_step (v := .bool false) hE336 (y_assign rfl) rfl rfl rfl ?_; intro a337 hE338; clear hE336
              refine c_nil ?_
              have hE339 := hE338.sub (L' := [(2, .bool false)]) ⟨rfl, trivial⟩; clear hE338
              refine p_tn ?_
              refine wp_ret ?_
              refine p_tr ?_
              have hF : F_l_FnExactDualPoset pp0 pp1 = false := by unfold F_l_FnExactDualPoset; rw [ht335, ht224, ht187, ht32]; first | done | rfl
              refine c_ret1 hE339 rfl rfl ?_
              exact ⟨(by rw [hF]; first | done | rfl), hS333.ext⟩
            ·
              obtain ⟨ht340, ht341⟩ := bor_f ht335
              have hp342 := of_decide_eq_false ht340
              obtain ⟨ht343, ht344⟩ := bor_f ht341
              have ht345 := bn_f ht343
              have hp346 := of_decide_eq_true ht345
              have ht347 := bn_f ht344
              have hp348 := of_decide_eq_true ht347
              have hE349 := hE332; rw [ht335] at hE349; clear hE332
              refine wp_skip ?_
              refine p_tn ?_
              refine c_seq ?_
              refine c_reg ?_
              refine q_step (v := .int .i64 1) hE349 (y_assign rfl) rfl rfl rfl ?_; intro a350 hE351; clear hE349
              refine c_nil ?_
              have hE352 := hE351.sub (L' := [(1, .pointer (some ⟨b2, 0, none⟩)), (4, .pointer (some ⟨b67, 0, none⟩)), (5, .int .i64 ((F_s_DualPoset pp0 pp1).2)), (7, .pointer (some ⟨b124, 0, none⟩)), (10, .int .i64 1)]) ⟨rfl, rfl, rfl, rfl, rfl, trivial⟩; clear hE351
              refine p_tn ?_
              refine c_seq ?_
              refine c_reg ?_
              refine q_step (v := .agg #[.int .i64 (((F_DualPoset pp0 pp1).1).1), .slice b114 ((((F_DualPoset pp0 pp1).1).2).length) c115]) hE352 (y_loadS Try.underlying27 rfl (by kernel_rfl) rfl (St.row (i := 3) hS333 rfl)) rfl rfl rfl ?_; intro a353 hE354; clear hE352
              refine q_step (v := .int .i64 1) hE354 (y_move rfl) rfl rfl rfl ?_; intro a355 hE356; clear hE354
              have hS363 := (St.pick (Γ' := [.own 2 1 b114 ((((F_DualPoset pp0 pp1).1).2).length) c115 (((F_DualPoset pp0 pp1).1).2), .own 2 1 b90 ((pp1).length) c91 (marked pp1.length 1), .own 2 1 b212 ((pp1).length) c213 pp1, .blk b124 #[.int .i64 (((F_DualPoset pp0 pp1).1).1), .slice b114 ((((F_DualPoset pp0 pp1).1).2).length) c115] 27, .blk b93 #[.int .i64 pp0, .slice b90 ((pp1).length) c91] 27, .own 2 1 b58 ((((F_s_DualPoset pp0 pp1).1).2).length) c59 (((F_s_DualPoset pp0 pp1).1).2), .blk b67 #[.int .i64 (((F_s_DualPoset pp0 pp1).1).1), .slice b58 ((((F_s_DualPoset pp0 pp1).1).2).length) c59] 27, .own 2 1 b49 ((pp1).length) c50 pp1, .rd 1 pp1A pp1.length pp1C pp1, .blk b2 #[.int .i64 pp0, .slice pp1A pp1.length pp1C] 24]) hS333 [2, 0, 1, 3, 4, 5, 6, 7, 8, 9] (by decide) rfl); clear hS333
              refine l_step hE356 rfl (l_call (f := 25) (argv := [.agg #[.int .i64 (((F_DualPoset pp0 pp1).1).1), .slice b114 ((((F_DualPoset pp0 pp1).1).2).length) c115], .int .i64 1]) hE356 (fun _ => cf_l_markPoset _ _) rfl rfl (d_l_markPoset (((F_DualPoset pp0 pp1).1).1) b114 ((((F_DualPoset pp0 pp1).1).2).length) c115 (((F_DualPoset pp0 pp1).1).2) 1 w331 w [.own 2 1 b90 ((pp1).length) c91 (marked pp1.length 1), .own 2 1 b212 ((pp1).length) c213 pp1, .blk b124 #[.int .i64 (((F_DualPoset pp0 pp1).1).1), .slice b114 ((((F_DualPoset pp0 pp1).1).2).length) c115] 27, .blk b93 #[.int .i64 pp0, .slice b90 ((pp1).length) c91] 27, .own 2 1 b58 ((((F_s_DualPoset pp0 pp1).1).2).length) c59 (((F_s_DualPoset pp0 pp1).1).2), .blk b67 #[.int .i64 (((F_s_DualPoset pp0 pp1).1).1), .slice b58 ((((F_s_DualPoset pp0 pp1).1).2).length) c59] 27, .own 2 1 b49 ((pp1).length) c50 pp1, .rd 1 pp1A pp1.length pp1C pp1, .blk b2 #[.int .i64 pp0, .slice pp1A pp1.length pp1C] 24] hS363 (by first | omega | (simp only [marked_len]; omega) | (simp only [marked_len] at *; omega)) (by first | omega | (simp only [marked_len]; omega) | (simp only [marked_len] at *; omega)) (by first | omega | (simp only [marked_len]; omega) | (simp only [marked_len] at *; omega))) ?_)
              rintro _ w358 ⟨rfl, hS361⟩ a359 hE360; clear hE356 hS363
              refine q_step (v := .int .i64 (1 + ((((F_DualPoset pp0 pp1).1).2).length : Int))) hE360 (y_assign rfl) rfl rfl rfl ?_; intro a364 hE365; clear hE360
              refine c_nil ?_
              have hE366 := hE365.sub (L' := [(1, .pointer (some ⟨b2, 0, none⟩)), (4, .pointer (some ⟨b67, 0, none⟩)), (5, .int .i64 ((F_s_DualPoset pp0 pp1).2)), (7, .pointer (some ⟨b124, 0, none⟩)), (10, .int .i64 (1 + ((((F_DualPoset pp0 pp1).1).2).length : Int)))]) ⟨rfl, rfl, rfl, rfl, rfl, trivial⟩; clear hE365
              refine p_tn ?_
              refine c_seq ?_
              refine c_reg ?_
              refine q_step (v := .int .i64 1) hE366 (y_assign rfl) rfl rfl rfl ?_; intro a367 hE368; clear hE366
              refine c_nil ?_
              have hE369 := hE368.sub (L' := [(1, .pointer (some ⟨b2, 0, none⟩)), (4, .pointer (some ⟨b67, 0, none⟩)), (5, .int .i64 ((F_s_DualPoset pp0 pp1).2)), (7, .pointer (some ⟨b124, 0, none⟩)), (10, .int .i64 (1 + ((((F_DualPoset pp0 pp1).1).2).length : Int))), (11, .int .i64 1)]) ⟨rfl, rfl, rfl, rfl, rfl, rfl, trivial⟩; clear hE368
              refine p_tn ?_
              refine c_seq ?_
              refine c_reg ?_
              refine q_step (v := .agg #[.int .i64 (((F_DualPoset pp0 pp1).1).1), .slice b114 ((((F_DualPoset pp0 pp1).1).2).length) c115]) hE369 (y_loadS Try.underlying27 rfl (by kernel_rfl) rfl (St.row (i := 3) hS361 rfl)) rfl rfl rfl ?_; intro a370 hE371; clear hE369
              refine q_step (v := .int .i64 1) hE371 (y_move rfl) rfl rfl rfl ?_; intro a372 hE373; clear hE371
              refine l_step hE373 rfl (l_call (f := 26) (argv := [.agg #[.int .i64 (((F_DualPoset pp0 pp1).1).1), .slice b114 ((((F_DualPoset pp0 pp1).1).2).length) c115], .int .i64 1]) hE373 (fun _ => cf_l_heldPoset _ _) rfl rfl (c_l_heldPoset (((F_DualPoset pp0 pp1).1).1) b114 ((((F_DualPoset pp0 pp1).1).2).length) c115 (marked (((F_DualPoset pp0 pp1).1).2).length 1) 1 w358 (St.rdO (i := 0) hS361 rfl) (by first | omega | (simp only [marked_len]; omega) | (simp only [marked_len] at *; omega)) (by first | omega | (simp only [marked_len]; omega) | (simp only [marked_len] at *; omega)) (by first | omega | (simp only [marked_len]; omega) | (simp only [marked_len] at *; omega))) ?_)
              rintro _ w375 ⟨rfl, he379⟩ a376 hE377; clear hE373
              have hS378 := St.go hS361 he379; clear hS361
              refine q_step (v := .int .i64 (F_l_heldPoset (((F_DualPoset pp0 pp1).1).1) (marked (((F_DualPoset pp0 pp1).1).2).length 1) 1)) hE377 (y_assign rfl) rfl rfl rfl ?_; intro a380 hE381; clear hE377
              refine c_nil ?_
              have hE382 := hE381.sub (L' := [(1, .pointer (some ⟨b2, 0, none⟩)), (4, .pointer (some ⟨b67, 0, none⟩)), (5, .int .i64 ((F_s_DualPoset pp0 pp1).2)), (7, .pointer (some ⟨b124, 0, none⟩)), (10, .int .i64 (1 + ((((F_DualPoset pp0 pp1).1).2).length : Int))), (11, .int .i64 (F_l_heldPoset (((F_DualPoset pp0 pp1).1).1) (marked (((F_DualPoset pp0 pp1).1).2).length 1) 1))]) ⟨rfl, rfl, rfl, rfl, rfl, rfl, trivial⟩; clear hE381
              refine p_tn ?_
              refine c_seq ?_
              refine c_seq ?_
              refine c_reg ?_
              refine q_step (v := .int .i64 (F_l_heldPoset (((F_DualPoset pp0 pp1).1).1) (marked (((F_DualPoset pp0 pp1).1).2).length 1) 1)) hE382 (y_move rfl) rfl rfl rfl ?_; intro a383 hE384; clear hE382
              refine q_step (v := .bool (decide ((F_l_heldPoset (((F_DualPoset pp0 pp1).1).1) (marked (((F_DualPoset pp0 pp1).1).2).length 1) 1) < 0))) hE384 (y_lss rfl rfl) rfl rfl rfl ?_; intro a385 hE386; clear hE384
              refine c_nil ?_
              have hE387 := hE386.sub (L' := [(1, .pointer (some ⟨b2, 0, none⟩)), (4, .pointer (some ⟨b67, 0, none⟩)), (5, .int .i64 ((F_s_DualPoset pp0 pp1).2)), (7, .pointer (some ⟨b124, 0, none⟩)), (10, .int .i64 (1 + ((((F_DualPoset pp0 pp1).1).2).length : Int))), (11, .int .i64 (F_l_heldPoset (((F_DualPoset pp0 pp1).1).1) (marked (((F_DualPoset pp0 pp1).1).2).length 1) 1)), (69, .bool (decide ((F_l_heldPoset (((F_DualPoset pp0 pp1).1).1) (marked (((F_DualPoset pp0 pp1).1).2).length 1) 1) < 0)))]) ⟨rfl, rfl, rfl, rfl, rfl, rfl, rfl, trivial⟩; clear hE386
              refine p_tn ?_
              refine c_cond hE387 rfl (fun ht388 => ?_) (fun ht388 => ?_)
              ·
                have hp389 := of_decide_eq_true ht388
                have hE390 := hE387; rw [ht388] at hE390; clear hE387
                refine c_seq ?_
                refine c_reg ?_
                refine q_step (v := .bool false) hE390 (y_assign rfl) rfl rfl rfl ?_; intro a391 hE392; clear hE390
                refine c_nil ?_
                have hE393 := hE392.sub (L' := [(2, .bool false)]) ⟨rfl, trivial⟩; clear hE392
                refine p_tn ?_
                refine wp_ret ?_
                refine p_tr ?_
                have hF : F_l_FnExactDualPoset pp0 pp1 = false := by unfold F_l_FnExactDualPoset; rw [ht388, ht335, ht224, ht187, ht32]; first | done | rfl
                refine c_ret1 hE393 rfl rfl ?_
                exact ⟨(by rw [hF]; first | done | rfl), hS378.ext⟩
              ·
                have hp394 := of_decide_eq_false ht388
                have hE395 := hE387; rw [ht388] at hE395; clear hE387
                refine wp_skip ?_
                refine p_tn ?_
                refine c_seq ?_
                refine c_seq ?_
                refine c_reg ?_
                refine q_step (v := .int .i64 (F_l_heldPoset (((F_DualPoset pp0 pp1).1).1) (marked (((F_DualPoset pp0 pp1).1).2).length 1) 1)) hE395 (y_move rfl) rfl rfl rfl ?_; intro a396 hE397; clear hE395
                refine q_step (v := .int .i64 (1 + ((((F_DualPoset pp0 pp1).1).2).length : Int))) hE397 (y_move rfl) rfl rfl rfl ?_; intro a398 hE399; clear hE397
                refine q_step (v := .bool (!decide ((F_l_heldPoset (((F_DualPoset pp0 pp1).1).1) (marked (((F_DualPoset pp0 pp1).1).2).length 1) 1) = (1 + ((((F_DualPoset pp0 pp1).1).2).length : Int))))) hE399 (y_neq rfl rfl) rfl rfl rfl ?_; intro a400 hE401; clear hE399
                refine c_nil ?_
                have hE402 := hE401.sub (L' := [(1, .pointer (some ⟨b2, 0, none⟩)), (4, .pointer (some ⟨b67, 0, none⟩)), (5, .int .i64 ((F_s_DualPoset pp0 pp1).2)), (7, .pointer (some ⟨b124, 0, none⟩)), (10, .int .i64 (1 + ((((F_DualPoset pp0 pp1).1).2).length : Int))), (72, .bool (!decide ((F_l_heldPoset (((F_DualPoset pp0 pp1).1).1) (marked (((F_DualPoset pp0 pp1).1).2).length 1) 1) = (1 + ((((F_DualPoset pp0 pp1).1).2).length : Int)))))]) ⟨rfl, rfl, rfl, rfl, rfl, rfl, trivial⟩; clear hE401
                refine p_tn ?_
                refine c_cond hE402 rfl (fun ht403 => ?_) (fun ht403 => ?_)
                ·
                  have ht404 := bn_t ht403
                  have hp405 := of_decide_eq_false ht404
                  have hE406 := hE402; rw [ht403] at hE406; clear hE402
                  refine c_seq ?_
                  refine c_reg ?_
                  refine q_step (v := .bool false) hE406 (y_assign rfl) rfl rfl rfl ?_; intro a407 hE408; clear hE406
                  refine c_nil ?_
                  have hE409 := hE408.sub (L' := [(2, .bool false)]) ⟨rfl, trivial⟩; clear hE408
                  refine p_tn ?_
                  refine wp_ret ?_
                  refine p_tr ?_
                  have hF : F_l_FnExactDualPoset pp0 pp1 = false := by unfold F_l_FnExactDualPoset; rw [ht403, ht388, ht335, ht224, ht187, ht32]; first | done | rfl
                  refine c_ret1 hE409 rfl rfl ?_
                  exact ⟨(by rw [hF]; first | done | rfl), hS378.ext⟩
                ·
                  have ht410 := bn_f ht403
                  have hp411 := of_decide_eq_true ht410
                  have hE412 := hE402; rw [ht403] at hE412; clear hE402
                  refine wp_skip ?_
                  refine p_tn ?_
                  refine c_seq ?_
                  refine c_reg ?_
                  refine q_step (v := .agg #[.int .i64 pp0, .slice pp1A pp1.length pp1C]) hE412 (y_loadS Try.underlying24 rfl (by kernel_rfl) rfl (St.row (i := 9) hS378 rfl)) rfl rfl rfl ?_; intro a413 hE414; clear hE412
                  refine l_step hE414 rfl (l_call (f := 16) (argv := [.agg #[.int .i64 pp0, .slice pp1A pp1.length pp1C]]) hE414 (fun _ => cf_l_toPoset _ _) rfl rfl (d_l_toPoset pp0 pp1A pp1.length pp1C pp1 w375 (St.rdR (i := 8) hS378 rfl) (by first | omega | (simp only [marked_len]; omega) | (simp only [marked_len] at *; omega))) ?_)
                  rintro _ w416 ⟨b421, c422, rfl, ho423, he420⟩ a417 hE418; clear hE414
                  have hS419 := St.own hS378 he420 ho423; clear hS378
                  refine l_step hE418 rfl (l_call (f := 24) (argv := [.agg #[.int .i64 pp0, .slice b421 ((pp1).length) c422]]) hE418 (fun _ => cf_DualPoset _ _) rfl rfl (c_DualPoset pp0 b421 ((pp1).length) c422 pp1 w416 (St.rdO (i := 0) hS419 rfl)) ?_)
                  rintro _ w425 ⟨b430, c431, rfl, ho432, he429⟩ a426 hE427; clear hE418
                  have hf433 := DualPoset_len pp0 pp1
                  have hS428 := St.own hS419 he429 ho432; clear hS419
                  refine q_step (v := .tuple #[.agg #[.int .i64 (((F_DualPoset pp0 pp1).1).1), .slice b430 ((((F_DualPoset pp0 pp1).1).2).length) c431], .int .i64 ((F_DualPoset pp0 pp1).2)]) hE427 (y_move rfl) rfl rfl rfl ?_; intro a434 hE435; clear hE427
                  refine q_step (v := .agg #[.int .i64 (((F_DualPoset pp0 pp1).1).1), .slice b430 ((((F_DualPoset pp0 pp1).1).2).length) c431]) hE435 (y_extract rfl rfl) rfl rfl rfl ?_; intro a436 hE437; clear hE435
                  refine q_step (v := .int .i64 ((F_DualPoset pp0 pp1).2)) hE437 (y_extract rfl rfl) rfl rfl rfl ?_; intro a438 hE439; clear hE437
                  refine l_step hE439 rfl (l_alloc (z := .agg #[.int .i64 0, .slice none 0 0]) (cs := #[.int .i64 0, .slice none 0 0]) hS428 hE439 (fun _ => by kernel_rfl) rfl rfl ?_)
                  intro b440 w441 hS444 he445 a442 hE443; clear hS428 hE439
                  refine l_step hE443 rfl (l_storeS (k := 0) (cs' := #[.int .i64 (((F_DualPoset pp0 pp1).1).1), .slice b430 ((((F_DualPoset pp0 pp1).1).2).length) c431]) hS444 hE443 (by kernel_rfl) rfl rfl (by kernel_rfl) rfl rfl ?_)
                  intro w447 hS450 a448 hE449; clear hS444 hE443
                  refine q_step (v := .int .i64 ((F_DualPoset pp0 pp1).2)) hE449 (y_assign rfl) rfl rfl rfl ?_; intro a452 hE453; clear hE449
                  refine c_nil ?_
                  have hE454 := hE453.sub (L' := [(4, .pointer (some ⟨b67, 0, none⟩)), (5, .int .i64 ((F_s_DualPoset pp0 pp1).2)), (7, .pointer (some ⟨b124, 0, none⟩)), (10, .int .i64 (1 + ((((F_DualPoset pp0 pp1).1).2).length : Int))), (12, .pointer (some ⟨b440, 0, none⟩)), (13, .int .i64 ((F_DualPoset pp0 pp1).2))]) ⟨rfl, rfl, rfl, rfl, rfl, rfl, trivial⟩; clear hE453
                  refine p_tn ?_
                  refine c_seq ?_
                  refine c_cut (fun a' w' => E a' 96 [(7, .pointer (some ⟨b124, 0, none⟩)), (10, .int .i64 (1 + ((((F_DualPoset pp0 pp1).1).2).length : Int))), (87, .bool ((!(decide (((((F_DualPoset pp0 pp1).1).1), (((F_DualPoset pp0 pp1).1).2)) = ((((F_s_DualPoset pp0 pp1).1).1), (((F_s_DualPoset pp0 pp1).1).2))))) || (!decide (((F_DualPoset pp0 pp1).2) = ((F_s_DualPoset pp0 pp1).2)))))] ∧ St w w' [.own 2 1 b430 ((((F_DualPoset pp0 pp1).1).2).length) c431 (((F_DualPoset pp0 pp1).1).2), .blk b440 #[.int .i64 (((F_DualPoset pp0 pp1).1).1), .slice b430 ((((F_DualPoset pp0 pp1).1).2).length) c431] 27, .own 2 1 b421 ((pp1).length) c422 pp1, .own 2 1 b114 ((((F_DualPoset pp0 pp1).1).2).length) c115 (marked (((F_DualPoset pp0 pp1).1).2).length 1), .own 2 1 b90 ((pp1).length) c91 (marked pp1.length 1), .own 2 1 b212 ((pp1).length) c213 pp1, .blk b124 #[.int .i64 (((F_DualPoset pp0 pp1).1).1), .slice b114 ((((F_DualPoset pp0 pp1).1).2).length) c115] 27, .blk b93 #[.int .i64 pp0, .slice b90 ((pp1).length) c91] 27, .own 2 1 b58 ((((F_s_DualPoset pp0 pp1).1).2).length) c59 (((F_s_DualPoset pp0 pp1).1).2), .blk b67 #[.int .i64 (((F_s_DualPoset pp0 pp1).1).1), .slice b58 ((((F_s_DualPoset pp0 pp1).1).2).length) c59] 27, .own 2 1 b49 ((pp1).length) c50 pp1, .rd 1 pp1A pp1.length pp1C pp1, .blk b2 #[.int .i64 pp0, .slice pp1A pp1.length pp1C] 24]) ?_ ?_
                  ·
                    refine c_reg ?_
                    refine q_step (v := .agg #[.int .i64 (((F_DualPoset pp0 pp1).1).1), .slice b430 ((((F_DualPoset pp0 pp1).1).2).length) c431]) hE454 (y_loadS Try.underlying27 rfl (by kernel_rfl) rfl (St.row (i := 0) hS450 rfl)) rfl rfl rfl ?_; intro a455 hE456; clear hE454
                    refine q_step (v := .agg #[.int .i64 (((F_s_DualPoset pp0 pp1).1).1), .slice b58 ((((F_s_DualPoset pp0 pp1).1).2).length) c59]) hE456 (y_loadS Try.underlying27 rfl (by kernel_rfl) rfl (St.row (i := 9) hS450 rfl)) rfl rfl rfl ?_; intro a457 hE458; clear hE456
                    refine l_step hE458 rfl (l_call (f := 18) (argv := [.agg #[.int .i64 (((F_DualPoset pp0 pp1).1).1), .slice b430 ((((F_DualPoset pp0 pp1).1).2).length) c431], .agg #[.int .i64 (((F_s_DualPoset pp0 pp1).1).1), .slice b58 ((((F_s_DualPoset pp0 pp1).1).2).length) c59]]) hE458 (fun _ => cf_l_eqPoset _ _) rfl rfl (d_l_eqPoset (((F_DualPoset pp0 pp1).1).1) b430 ((((F_DualPoset pp0 pp1).1).2).length) c431 (((F_DualPoset pp0 pp1).1).2) (((F_s_DualPoset pp0 pp1).1).1) b58 ((((F_s_DualPoset pp0 pp1).1).2).length) c59 (((F_s_DualPoset pp0 pp1).1).2) w447 (St.rdO (i := 1) hS450 rfl) (St.rdO (i := 8) hS450 rfl)) ?_)
                    rintro _ w460 ⟨rfl, he464⟩ a461 hE462; clear hE458
                    have hS463 := St.go hS450 he464; clear hS450
                    refine q_step (v := .bool (!(decide (((((F_DualPoset pp0 pp1).1).1), (((F_DualPoset pp0 pp1).1).2)) = ((((F_s_DualPoset pp0 pp1).1).1), (((F_s_DualPoset pp0 pp1).1).2)))))) hE462 (y_not rfl) rfl rfl rfl ?_; intro a465 hE466; clear hE462
                    refine q_step (v := .bool (!(decide (((((F_DualPoset pp0 pp1).1).1), (((F_DualPoset pp0 pp1).1).2)) = ((((F_s_DualPoset pp0 pp1).1).1), (((F_s_DualPoset pp0 pp1).1).2)))))) hE466 (y_move rfl) rfl rfl rfl ?_; intro a467 hE468; clear hE466
                    rcases Bool.eq_false_or_eq_true (!(decide (((((F_DualPoset pp0 pp1).1).1), (((F_DualPoset pp0 pp1).1).2)) = ((((F_s_DualPoset pp0 pp1).1).1), (((F_s_DualPoset pp0 pp1).1).2))))) with hb469 | hb469
                    ·
                      have hE470 := hE468; rw [hb469] at hE470; clear hE468
                      have ht471 := bn_t hb469
                      have hp472 := of_decide_eq_false ht471
                      refine q_skip hE470 rfl rfl rfl ?_; intro a473 hE474; clear hE470
                      refine q_skip hE474 rfl rfl rfl ?_; intro a475 hE476; clear hE474
                      refine q_skip hE476 rfl rfl rfl ?_; intro a477 hE478; clear hE476
                      refine q_step (v := .bool true) hE478 (y_pick (b := true) rfl rfl) rfl rfl rfl ?_; intro a479 hE480; clear hE478
                      refine c_nil ?_
                      have hE481 := hE480.sub (L' := [(7, .pointer (some ⟨b124, 0, none⟩)), (10, .int .i64 (1 + ((((F_DualPoset pp0 pp1).1).2).length : Int))), (87, .bool true)]) ⟨rfl, rfl, rfl, trivial⟩; clear hE480
                      refine p_tn ?_
                      have hE482 := hE481.sub (L' := [(7, .pointer (some ⟨b124, 0, none⟩)), (10, .int .i64 (1 + ((((F_DualPoset pp0 pp1).1).2).length : Int))), (87, .bool true)]) ⟨rfl, rfl, rfl, trivial⟩
                      have hS483 := (St.pick (Γ' := [.own 2 1 b430 ((((F_DualPoset pp0 pp1).1).2).length) c431 (((F_DualPoset pp0 pp1).1).2), .blk b440 #[.int .i64 (((F_DualPoset pp0 pp1).1).1), .slice b430 ((((F_DualPoset pp0 pp1).1).2).length) c431] 27, .own 2 1 b421 ((pp1).length) c422 pp1, .own 2 1 b114 ((((F_DualPoset pp0 pp1).1).2).length) c115 (marked (((F_DualPoset pp0 pp1).1).2).length 1), .own 2 1 b90 ((pp1).length) c91 (marked pp1.length 1), .own 2 1 b212 ((pp1).length) c213 pp1, .blk b124 #[.int .i64 (((F_DualPoset pp0 pp1).1).1), .slice b114 ((((F_DualPoset pp0 pp1).1).2).length) c115] 27, .blk b93 #[.int .i64 pp0, .slice b90 ((pp1).length) c91] 27, .own 2 1 b58 ((((F_s_DualPoset pp0 pp1).1).2).length) c59 (((F_s_DualPoset pp0 pp1).1).2), .blk b67 #[.int .i64 (((F_s_DualPoset pp0 pp1).1).1), .slice b58 ((((F_s_DualPoset pp0 pp1).1).2).length) c59] 27, .own 2 1 b49 ((pp1).length) c50 pp1, .rd 1 pp1A pp1.length pp1C pp1, .blk b2 #[.int .i64 pp0, .slice pp1A pp1.length pp1C] 24]) hS463 [1, 0, 2, 3, 4, 5, 6, 7, 8, 9, 10, 11, 12] (by decide) rfl)
                      exact ⟨(by rw [hb469]; exact hE482), hS483⟩
                    ·
                      have hE484 := hE468; rw [hb469] at hE484; clear hE468
                      have ht485 := bn_f hb469
                      have hp486 := of_decide_eq_true ht485
                      refine q_step (v := .int .i64 ((F_DualPoset pp0 pp1).2)) hE484 (y_move rfl) rfl rfl rfl ?_; intro a487 hE488; clear hE484
                      refine q_step (v := .int .i64 ((F_s_DualPoset pp0 pp1).2)) hE488 (y_move rfl) rfl rfl rfl ?_; intro a489 hE490; clear hE488
                      refine q_step (v := .bool (!decide (((F_DualPoset pp0 pp1).2) = ((F_s_DualPoset pp0 pp1).2)))) hE490 (y_neq rfl rfl) rfl rfl rfl ?_; intro a491 hE492; clear hE490
                      refine q_step (v := .bool (!decide (((F_DualPoset pp0 pp1).2) = ((F_s_DualPoset pp0 pp1).2)))) hE492 (y_pick (b := false) rfl rfl) rfl rfl rfl ?_; intro a493 hE494; clear hE492
                      refine c_nil ?_
                      have hE495 := hE494.sub (L' := [(7, .pointer (some ⟨b124, 0, none⟩)), (10, .int .i64 (1 + ((((F_DualPoset pp0 pp1).1).2).length : Int))), (87, .bool (!decide (((F_DualPoset pp0 pp1).2) = ((F_s_DualPoset pp0 pp1).2))))]) ⟨rfl, rfl, rfl, trivial⟩; clear hE494
                      refine p_tn ?_
                      have hE496 := hE495.sub (L' := [(7, .pointer (some ⟨b124, 0, none⟩)), (10, .int .i64 (1 + ((((F_DualPoset pp0 pp1).1).2).length : Int))), (87, .bool (!decide (((F_DualPoset pp0 pp1).2) = ((F_s_DualPoset pp0 pp1).2))))]) ⟨rfl, rfl, rfl, trivial⟩
                      have hS497 := (St.pick (Γ' := [.own 2 1 b430 ((((F_DualPoset pp0 pp1).1).2).length) c431 (((F_DualPoset pp0 pp1).1).2), .blk b440 #[.int .i64 (((F_DualPoset pp0 pp1).1).1), .slice b430 ((((F_DualPoset pp0 pp1).1).2).length) c431] 27, .own 2 1 b421 ((pp1).length) c422 pp1, .own 2 1 b114 ((((F_DualPoset pp0 pp1).1).2).length) c115 (marked (((F_DualPoset pp0 pp1).1).2).length 1), .own 2 1 b90 ((pp1).length) c91 (marked pp1.length 1), .own 2 1 b212 ((pp1).length) c213 pp1, .blk b124 #[.int .i64 (((F_DualPoset pp0 pp1).1).1), .slice b114 ((((F_DualPoset pp0 pp1).1).2).length) c115] 27, .blk b93 #[.int .i64 pp0, .slice b90 ((pp1).length) c91] 27, .own 2 1 b58 ((((F_s_DualPoset pp0 pp1).1).2).length) c59 (((F_s_DualPoset pp0 pp1).1).2), .blk b67 #[.int .i64 (((F_s_DualPoset pp0 pp1).1).1), .slice b58 ((((F_s_DualPoset pp0 pp1).1).2).length) c59] 27, .own 2 1 b49 ((pp1).length) c50 pp1, .rd 1 pp1A pp1.length pp1C pp1, .blk b2 #[.int .i64 pp0, .slice pp1A pp1.length pp1C] 24]) hS463 [1, 0, 2, 3, 4, 5, 6, 7, 8, 9, 10, 11, 12] (by decide) rfl)
                      exact ⟨(by rw [hb469]; exact hE496), hS497⟩
                  ·
                    rintro a498 w499 ⟨hE500, hS501⟩; clear hE454 hS450
                    have hE503 := hE500; rw [ht187] at hE503; clear hE500
                    refine c_false hE503 rfl ?_
                    refine wp_skip ?_
                    refine p_tn ?_
                    refine c_seq ?_
                    refine c_reg ?_
                    refine q_step (v := .int .i64 1) hE503 (y_assign rfl) rfl rfl rfl ?_; intro a504 hE505; clear hE503
                    refine c_nil ?_
                    have hE506 := hE505.sub (L' := [(7, .pointer (some ⟨b124, 0, none⟩)), (10, .int .i64 (1 + ((((F_DualPoset pp0 pp1).1).2).length : Int))), (11, .int .i64 1)]) ⟨rfl, rfl, rfl, trivial⟩; clear hE505
                    refine p_tn ?_
                    refine c_seq ?_
                    refine c_reg ?_
                    refine q_step (v := .agg #[.int .i64 (((F_DualPoset pp0 pp1).1).1), .slice b114 ((((F_DualPoset pp0 pp1).1).2).length) c115]) hE506 (y_loadS Try.underlying27 rfl (by kernel_rfl) rfl (St.row (i := 6) hS501 rfl)) rfl rfl rfl ?_; intro a507 hE508; clear hE506
                    refine q_step (v := .int .i64 1) hE508 (y_move rfl) rfl rfl rfl ?_; intro a509 hE510; clear hE508
                    refine l_step hE510 rfl (l_call (f := 26) (argv := [.agg #[.int .i64 (((F_DualPoset pp0 pp1).1).1), .slice b114 ((((F_DualPoset pp0 pp1).1).2).length) c115], .int .i64 1]) hE510 (fun _ => cf_l_heldPoset _ _) rfl rfl (c_l_heldPoset (((F_DualPoset pp0 pp1).1).1) b114 ((((F_DualPoset pp0 pp1).1).2).length) c115 (marked (((F_DualPoset pp0 pp1).1).2).length 1) 1 w499 (St.rdO (i := 3) hS501 rfl) (by first | omega | (simp only [marked_len]; omega) | (simp only [marked_len] at *; omega)) (by first | omega | (simp only [marked_len]; omega) | (simp only [marked_len] at *; omega)) (by first | omega | (simp only [marked_len]; omega) | (simp only [marked_len] at *; omega))) ?_)
                    rintro _ w512 ⟨rfl, he516⟩ a513 hE514; clear hE510
                    have hS515 := St.go hS501 he516; clear hS501
                    refine q_step (v := .int .i64 (F_l_heldPoset (((F_DualPoset pp0 pp1).1).1) (marked (((F_DualPoset pp0 pp1).1).2).length 1) 1)) hE514 (y_assign rfl) rfl rfl rfl ?_; intro a517 hE518; clear hE514
                    refine c_nil ?_
                    have hE519 := hE518.sub (L' := [(10, .int .i64 (1 + ((((F_DualPoset pp0 pp1).1).2).length : Int))), (11, .int .i64 (F_l_heldPoset (((F_DualPoset pp0 pp1).1).1) (marked (((F_DualPoset pp0 pp1).1).2).length 1) 1))]) ⟨rfl, rfl, trivial⟩; clear hE518
                    refine p_tn ?_
                    refine c_seq ?_
                    refine c_seq ?_
                    refine c_reg ?_
                    refine q_step (v := .int .i64 (F_l_heldPoset (((F_DualPoset pp0 pp1).1).1) (marked (((F_DualPoset pp0 pp1).1).2).length 1) 1)) hE519 (y_move rfl) rfl rfl rfl ?_; intro a520 hE521; clear hE519
                    refine q_step (v := .bool (decide ((F_l_heldPoset (((F_DualPoset pp0 pp1).1).1) (marked (((F_DualPoset pp0 pp1).1).2).length 1) 1) < 0))) hE521 (y_lss rfl rfl) rfl rfl rfl ?_; intro a522 hE523; clear hE521
                    refine c_nil ?_
                    have hE524 := hE523.sub (L' := [(10, .int .i64 (1 + ((((F_DualPoset pp0 pp1).1).2).length : Int))), (11, .int .i64 (F_l_heldPoset (((F_DualPoset pp0 pp1).1).1) (marked (((F_DualPoset pp0 pp1).1).2).length 1) 1)), (92, .bool (decide ((F_l_heldPoset (((F_DualPoset pp0 pp1).1).1) (marked (((F_DualPoset pp0 pp1).1).2).length 1) 1) < 0)))]) ⟨rfl, rfl, rfl, trivial⟩; clear hE523
                    refine p_tn ?_
                    have hE525 := hE524; rw [ht388] at hE525; clear hE524
                    refine c_false hE525 rfl ?_
                    refine wp_skip ?_
                    refine p_tn ?_
                    refine c_seq ?_
                    refine c_seq ?_
                    refine c_reg ?_
                    refine q_step (v := .int .i64 (F_l_heldPoset (((F_DualPoset pp0 pp1).1).1) (marked (((F_DualPoset pp0 pp1).1).2).length 1) 1)) hE525 (y_move rfl) rfl rfl rfl ?_; intro a526 hE527; clear hE525
                    refine q_step (v := .int .i64 (1 + ((((F_DualPoset pp0 pp1).1).2).length : Int))) hE527 (y_move rfl) rfl rfl rfl ?_; intro a528 hE529; clear hE527
                    refine q_step (v := .bool (!decide ((F_l_heldPoset (((F_DualPoset pp0 pp1).1).1) (marked (((F_DualPoset pp0 pp1).1).2).length 1) 1) = (1 + ((((F_DualPoset pp0 pp1).1).2).length : Int))))) hE529 (y_neq rfl rfl) rfl rfl rfl ?_; intro a530 hE531; clear hE529
                    refine c_nil ?_
                    have hE532 := hE531.sub (L' := [(95, .bool (!decide ((F_l_heldPoset (((F_DualPoset pp0 pp1).1).1) (marked (((F_DualPoset pp0 pp1).1).2).length 1) 1) = (1 + ((((F_DualPoset pp0 pp1).1).2).length : Int)))))]) ⟨rfl, trivial⟩; clear hE531
                    refine p_tn ?_
                    have hE533 := hE532; rw [ht403] at hE533; clear hE532
                    refine c_false hE533 rfl ?_
                    refine wp_skip ?_
                    refine p_tn ?_
                    refine c_seq ?_
                    refine c_reg ?_
                    refine q_step (v := .bool true) hE533 (y_assign rfl) rfl rfl rfl ?_; intro a534 hE535; clear hE533
                    refine c_nil ?_
                    have hE536 := hE535.sub (L' := [(2, .bool true)]) ⟨rfl, trivial⟩; clear hE535
                    refine p_tn ?_
                    refine wp_ret ?_
                    have hF : F_l_FnExactDualPoset pp0 pp1 = true := by unfold F_l_FnExactDualPoset; rw [ht403, ht388, ht335, ht224, ht187, ht32]; first | done | rfl
                    refine c_ret1 hE536 rfl rfl ?_
                    exact ⟨(by rw [hF]; first | done | rfl), hS515.ext⟩

theorem FnExactDualPoset_true (pp0 : Int) (pp1 : List Int) : F_l_FnExactDualPoset pp0 pp1 = true := by
  unfold F_l_FnExactDualPoset
  rw [(DualPoset_both pp0 pp1).1, heldPoset_eq _ _ _ (by omega)]
  have h1 : decide (1 + (pp1.length : Int) < 0) = false := decide_eq_false (by omega)
  have h2 : decide ((1 : Int) + ((F_s_DualPoset pp0 pp1).1.2.length : Int) < 0) = false := decide_eq_false (by omega)
  simp [h1, h2]

end Go.Proofs.Ythogljcjjmclcaa
