/- GLFoA: models and contracts, printed by wip/gen/gen.py -/
import Derived.Test.YtgcmfjliklcbdaaGA
import Derived.Test.YtgcmfjliklcbdaaGF
set_option linter.unusedVariables false
set_option linter.unusedSimpArgs false
namespace Go.Proofs.Ytgcmfjliklcbdaa
open Go.RowKit

def F_l_FnExactFrameOfAlgebra (ap0 : Int) (ap1 : List Int) : Bool :=
  bif (decide ((F_l_szModalAlgebra ap0 ap1 1048576) < 0)) then true else (bif ((!(decide (((((F_FrameOfAlgebra ap0 ap1).1).1), (((F_FrameOfAlgebra ap0 ap1).1).2)) = ((((F_s_FrameOfAlgebra ap0 ap1).1).1), (((F_s_FrameOfAlgebra ap0 ap1).1).2))))) || (!decide (((F_FrameOfAlgebra ap0 ap1).2) = ((F_s_FrameOfAlgebra ap0 ap1).2)))) then false else (bif (!(decide ((ap0, ap1) = (ap0, ap1)))) then false else (bif ((decide ((1 + (ap1.length : Int)) < 0)) || ((!(decide (((((F_FrameOfAlgebra ap0 ap1).1).1), (((F_FrameOfAlgebra ap0 ap1).1).2)) = ((((F_s_FrameOfAlgebra ap0 ap1).1).1), (((F_s_FrameOfAlgebra ap0 ap1).1).2))))) || (!decide (((F_FrameOfAlgebra ap0 ap1).2) = ((F_s_FrameOfAlgebra ap0 ap1).2))))) then false else (bif (decide ((F_l_heldFrame (((F_FrameOfAlgebra ap0 ap1).1).1) (marked (((F_FrameOfAlgebra ap0 ap1).1).2).length 1) 1) < 0)) then false else (bif (!decide ((F_l_heldFrame (((F_FrameOfAlgebra ap0 ap1).1).1) (marked (((F_FrameOfAlgebra ap0 ap1).1).2).length 1) 1) = (1 + ((((F_FrameOfAlgebra ap0 ap1).1).2).length : Int)))) then false else true)))))
theorem cf_l_FnExactFrameOfAlgebra (args : Array Value) (w : World) : (callFunc 7 args).run Try.prog w = .ok (.enter 7 args) w := by kernel_rfl
set_option maxRecDepth 100000 in
theorem c_l_FnExactFrameOfAlgebra (ap0 : Int) (ap1A : Option Addr) (ap1N ap1C : Nat) (ap1 : List Int) (w : World) (ap1R : RdS w 1 ap1A ap1N ap1C ap1) :
    Calls Try.prog 7 #[.agg #[.int .i64 ap0, .slice ap1A ap1N ap1C]] w (Ret fun v w' => v = .bool (F_l_FnExactFrameOfAlgebra ap0 ap1) ∧ Ext w w') := by
  obtain rfl : ap1N = ap1.length := ap1R.len1.symm
  have ap1Le := ap1R.le
  have hS := St.nil w
  have hS1 := St.rd0 hS rfl ap1R; clear hS
  refine enter (args := [.agg #[.int .i64 ap0, .slice ap1A ap1.length ap1C]]) Try.func7 rfl rfl ?_
  rw [Try.ntmps7]; intro a hE
  have hE := hE.sub (L' := [(0, .agg #[.int .i64 ap0, .slice ap1A ap1.length ap1C])]) ⟨rfl, trivial⟩
  refine c_seq ?_
  refine c_reg ?_
  refine l_step hE rfl (l_box (v := .agg #[.int .i64 ap0, .slice ap1A ap1.length ap1C]) (cs := #[.int .i64 ap0, .slice ap1A ap1.length ap1C]) hS1 hE rfl rfl rfl ?_)
  intro b2 w3 hS6 he7 a4 hE5; clear hS1 hE
  refine q_step (v := .bool false) hE5 (y_assign rfl) rfl rfl rfl ?_; intro a8 hE9; clear hE5
  refine c_nil ?_
  have hE10 := hE9.sub (L' := [(1, .pointer (some ⟨b2, 0, none⟩))]) ⟨rfl, trivial⟩; clear hE9
  refine p_tn ?_
  refine c_seq ?_
  refine c_reg ?_
  refine q_step (v := .int .i64 1048576) hE10 (y_assign rfl) rfl rfl rfl ?_; intro a11 hE12; clear hE10
  refine c_nil ?_
  have hE13 := hE12.sub (L' := [(1, .pointer (some ⟨b2, 0, none⟩)), (3, .int .i64 1048576)]) ⟨rfl, rfl, trivial⟩; clear hE12
  refine p_tn ?_
  refine c_seq ?_
  refine c_reg ?_
  refine q_step (v := .agg #[.int .i64 ap0, .slice ap1A ap1.length ap1C]) hE13 (y_loadS Try.underlying45 rfl (by kernel_rfl) rfl (St.row (i := 0) hS6 rfl)) rfl rfl rfl ?_; intro a14 hE15; clear hE13
  refine q_step (v := .int .i64 1048576) hE15 (y_move rfl) rfl rfl rfl ?_; intro a16 hE17; clear hE15
  refine l_step hE17 rfl (l_call (f := 32) (argv := [.agg #[.int .i64 ap0, .slice ap1A ap1.length ap1C], .int .i64 1048576]) hE17 (fun _ => cf_l_szModalAlgebra _ _) rfl rfl (c_l_szModalAlgebra ap0 ap1A ap1.length ap1C ap1 1048576 w3 (St.rdR (i := 1) hS6 rfl) (by first | omega | (simp only [marked_len]; omega)) (by first | omega | (simp only [marked_len]; omega))) ?_)
  rintro _ w19 ⟨rfl, he23⟩ a20 hE21; clear hE17
  have hS22 := St.go hS6 he23; clear hS6
  refine q_step (v := .int .i64 (F_l_szModalAlgebra ap0 ap1 1048576)) hE21 (y_assign rfl) rfl rfl rfl ?_; intro a24 hE25; clear hE21
  refine c_nil ?_
  have hE26 := hE25.sub (L' := [(1, .pointer (some ⟨b2, 0, none⟩)), (3, .int .i64 (F_l_szModalAlgebra ap0 ap1 1048576))]) ⟨rfl, rfl, trivial⟩; clear hE25
  refine p_tn ?_
  refine c_seq ?_
  refine c_seq ?_
  refine c_reg ?_
  refine q_step (v := .int .i64 (F_l_szModalAlgebra ap0 ap1 1048576)) hE26 (y_move rfl) rfl rfl rfl ?_; intro a27 hE28; clear hE26
  refine q_step (v := .bool (decide ((F_l_szModalAlgebra ap0 ap1 1048576) < 0))) hE28 (y_lss rfl rfl) rfl rfl rfl ?_; intro a29 hE30; clear hE28
  refine c_nil ?_
  have hE31 := hE30.sub (L' := [(1, .pointer (some ⟨b2, 0, none⟩)), (18, .bool (decide ((F_l_szModalAlgebra ap0 ap1 1048576) < 0)))]) ⟨rfl, rfl, trivial⟩; clear hE30
  refine p_tn ?_
  refine c_cond hE31 rfl (fun ht32 => ?_) (fun ht32 => ?_)
  ·
    have hp33 := of_decide_eq_true ht32
    have hE34 := hE31; rw [ht32] at hE34; clear hE31
    refine c_seq ?_
    refine c_reg ?_
    refine q_step (v := .bool true) hE34 (y_assign rfl) rfl rfl rfl ?_; intro a35 hE36; clear hE34
    refine c_nil ?_
    have hE37 := hE36.sub (L' := [(2, .bool true)]) ⟨rfl, trivial⟩; clear hE36
    refine p_tn ?_
    refine wp_ret ?_
    refine p_tr ?_
    have hF : F_l_FnExactFrameOfAlgebra ap0 ap1 = true := by unfold F_l_FnExactFrameOfAlgebra; rw [ht32]; first | done | rfl
    refine c_ret1 hE37 rfl rfl ?_
    exact ⟨(by rw [hF]; first | done | rfl), hS22.ext⟩
  ·
    have hp38 := of_decide_eq_false ht32
    have hq39 := szModalAlgebra_bound hp38
    have hE40 := hE31; rw [ht32] at hE40; clear hE31
    refine wp_skip ?_
    refine p_tn ?_
    refine c_seq ?_
    refine c_reg ?_
    refine q_step (v := .agg #[.int .i64 ap0, .slice ap1A ap1.length ap1C]) hE40 (y_loadS Try.underlying45 rfl (by kernel_rfl) rfl (St.row (i := 0) hS22 rfl)) rfl rfl rfl ?_; intro a41 hE42; clear hE40
    refine l_step hE42 rfl (l_call (f := 34) (argv := [.agg #[.int .i64 ap0, .slice ap1A ap1.length ap1C]]) hE42 (fun _ => cf_l_toModalAlgebra _ _) rfl rfl (d_l_toModalAlgebra ap0 ap1A ap1.length ap1C ap1 w19 (St.rdR (i := 1) hS22 rfl) (by first | omega | (simp only [marked_len]; omega))) ?_)
    rintro _ w44 ⟨b49, c50, rfl, ho51, he48⟩ a45 hE46; clear hE42
    have hS47 := St.own hS22 he48 ho51; clear hS22
    refine l_step hE46 rfl (l_call (f := 33) (argv := [.agg #[.int .i64 ap0, .slice b49 ((ap1).length) c50]]) hE46 (fun _ => cf_s_FrameOfAlgebra _ _) rfl rfl (c_s_FrameOfAlgebra ap0 b49 ((ap1).length) c50 ap1 w44 (St.rdO (i := 0) hS47 rfl)) ?_)
    rintro _ w53 ⟨b58, c59, rfl, ho60, he57⟩ a54 hE55; clear hE46
    have hS56 := St.own hS47 he57 ho60; clear hS47
    refine q_step (v := .tuple #[.agg #[.int .i64 (((F_s_FrameOfAlgebra ap0 ap1).1).1), .slice b58 ((((F_s_FrameOfAlgebra ap0 ap1).1).2).length) c59], .int .i64 ((F_s_FrameOfAlgebra ap0 ap1).2)]) hE55 (y_move rfl) rfl rfl rfl ?_; intro a61 hE62; clear hE55
    refine q_step (v := .agg #[.int .i64 (((F_s_FrameOfAlgebra ap0 ap1).1).1), .slice b58 ((((F_s_FrameOfAlgebra ap0 ap1).1).2).length) c59]) hE62 (y_extract rfl rfl) rfl rfl rfl ?_; intro a63 hE64; clear hE62
    refine q_step (v := .int .i64 ((F_s_FrameOfAlgebra ap0 ap1).2)) hE64 (y_extract rfl rfl) rfl rfl rfl ?_; intro a65 hE66; clear hE64
    refine l_step hE66 rfl (l_alloc (z := .agg #[.int .i64 0, .slice none 0 0]) (cs := #[.int .i64 0, .slice none 0 0]) hS56 hE66 (fun _ => by kernel_rfl) rfl rfl ?_)
    intro b67 w68 hS71 he72 a69 hE70; clear hS56 hE66
    refine l_step hE70 rfl (l_storeS (k := 0) (cs' := #[.int .i64 (((F_s_FrameOfAlgebra ap0 ap1).1).1), .slice b58 ((((F_s_FrameOfAlgebra ap0 ap1).1).2).length) c59]) hS71 hE70 (by kernel_rfl) rfl rfl (by kernel_rfl) rfl rfl ?_)
    intro w74 hS77 a75 hE76; clear hS71 hE70
    refine q_step (v := .int .i64 ((F_s_FrameOfAlgebra ap0 ap1).2)) hE76 (y_assign rfl) rfl rfl rfl ?_; intro a79 hE80; clear hE76
    refine c_nil ?_
    have hE81 := hE80.sub (L' := [(1, .pointer (some ⟨b2, 0, none⟩)), (4, .pointer (some ⟨b67, 0, none⟩)), (5, .int .i64 ((F_s_FrameOfAlgebra ap0 ap1).2))]) ⟨rfl, rfl, rfl, trivial⟩; clear hE80
    refine p_tn ?_
    refine c_seq ?_
    refine c_reg ?_
    refine q_step (v := .agg #[.int .i64 ap0, .slice ap1A ap1.length ap1C]) hE81 (y_loadS Try.underlying45 rfl (by kernel_rfl) rfl (St.row (i := 3) hS77 rfl)) rfl rfl rfl ?_; intro a82 hE83; clear hE81
    refine l_step hE83 rfl (l_call (f := 34) (argv := [.agg #[.int .i64 ap0, .slice ap1A ap1.length ap1C]]) hE83 (fun _ => cf_l_toModalAlgebra _ _) rfl rfl (d_l_toModalAlgebra ap0 ap1A ap1.length ap1C ap1 w74 (St.rdR (i := 4) hS77 rfl) (by first | omega | (simp only [marked_len]; omega))) ?_)
    rintro _ w85 ⟨b90, c91, rfl, ho92, he89⟩ a86 hE87; clear hE83
    have hS88 := St.own hS77 he89 ho92; clear hS77
    refine l_step hE87 rfl (l_alloc (z := .agg #[.int .i64 0, .slice none 0 0]) (cs := #[.int .i64 0, .slice none 0 0]) hS88 hE87 (fun _ => by kernel_rfl) rfl rfl ?_)
    intro b93 w94 hS97 he98 a95 hE96; clear hS88 hE87
    refine l_step hE96 rfl (l_storeS (k := 0) (cs' := #[.int .i64 ap0, .slice b90 ((ap1).length) c91]) hS97 hE96 (by kernel_rfl) rfl rfl (by kernel_rfl) rfl rfl ?_)
    intro w100 hS103 a101 hE102; clear hS97 hE96
    refine c_nil ?_
    have hE105 := hE102.sub (L' := [(1, .pointer (some ⟨b2, 0, none⟩)), (4, .pointer (some ⟨b67, 0, none⟩)), (5, .int .i64 ((F_s_FrameOfAlgebra ap0 ap1).2)), (6, .pointer (some ⟨b93, 0, none⟩))]) ⟨rfl, rfl, rfl, rfl, trivial⟩; clear hE102
    refine p_tn ?_
    refine c_seq ?_
    refine c_reg ?_
    refine q_step (v := .agg #[.int .i64 ap0, .slice b90 ((ap1).length) c91]) hE105 (y_loadS Try.underlying48 rfl (by kernel_rfl) rfl (St.row (i := 0) hS103 rfl)) rfl rfl rfl ?_; intro a106 hE107; clear hE105
    refine l_step hE107 rfl (l_call (f := 35) (argv := [.agg #[.int .i64 ap0, .slice b90 ((ap1).length) c91]]) hE107 (fun _ => cf_FrameOfAlgebra _ _) rfl rfl (c_FrameOfAlgebra ap0 b90 ((ap1).length) c91 ap1 w100 (St.rdO (i := 1) hS103 rfl)) ?_)
    rintro _ w109 ⟨b114, c115, rfl, ho116, he113⟩ a110 hE111; clear hE107
    have hf117 := FrameOfAlgebra_len ap0 ap1
    have hS112 := St.own hS103 he113 ho116; clear hS103
    refine q_step (v := .tuple #[.agg #[.int .i64 (((F_FrameOfAlgebra ap0 ap1).1).1), .slice b114 ((((F_FrameOfAlgebra ap0 ap1).1).2).length) c115], .int .i64 ((F_FrameOfAlgebra ap0 ap1).2)]) hE111 (y_move rfl) rfl rfl rfl ?_; intro a118 hE119; clear hE111
    refine q_step (v := .agg #[.int .i64 (((F_FrameOfAlgebra ap0 ap1).1).1), .slice b114 ((((F_FrameOfAlgebra ap0 ap1).1).2).length) c115]) hE119 (y_extract rfl rfl) rfl rfl rfl ?_; intro a120 hE121; clear hE119
    refine q_step (v := .int .i64 ((F_FrameOfAlgebra ap0 ap1).2)) hE121 (y_extract rfl rfl) rfl rfl rfl ?_; intro a122 hE123; clear hE121
    refine l_step hE123 rfl (l_alloc (z := .agg #[.int .i64 0, .slice none 0 0]) (cs := #[.int .i64 0, .slice none 0 0]) hS112 hE123 (fun _ => by kernel_rfl) rfl rfl ?_)
    intro b124 w125 hS128 he129 a126 hE127; clear hS112 hE123
    refine l_step hE127 rfl (l_storeS (k := 0) (cs' := #[.int .i64 (((F_FrameOfAlgebra ap0 ap1).1).1), .slice b114 ((((F_FrameOfAlgebra ap0 ap1).1).2).length) c115]) hS128 hE127 (by kernel_rfl) rfl rfl (by kernel_rfl) rfl rfl ?_)
    intro w131 hS134 a132 hE133; clear hS128 hE127
    refine q_step (v := .int .i64 ((F_FrameOfAlgebra ap0 ap1).2)) hE133 (y_assign rfl) rfl rfl rfl ?_; intro a136 hE137; clear hE133
    refine c_nil ?_
    have hE138 := hE137.sub (L' := [(1, .pointer (some ⟨b2, 0, none⟩)), (4, .pointer (some ⟨b67, 0, none⟩)), (5, .int .i64 ((F_s_FrameOfAlgebra ap0 ap1).2)), (6, .pointer (some ⟨b93, 0, none⟩)), (7, .pointer (some ⟨b124, 0, none⟩)), (8, .int .i64 ((F_FrameOfAlgebra ap0 ap1).2))]) ⟨rfl, rfl, rfl, rfl, rfl, rfl, trivial⟩; clear hE137
    refine p_tn ?_
    refine c_seq ?_
    refine c_cut (fun a' w' => E a' 96 [(1, .pointer (some ⟨b2, 0, none⟩)), (4, .pointer (some ⟨b67, 0, none⟩)), (5, .int .i64 ((F_s_FrameOfAlgebra ap0 ap1).2)), (6, .pointer (some ⟨b93, 0, none⟩)), (7, .pointer (some ⟨b124, 0, none⟩)), (8, .int .i64 ((F_FrameOfAlgebra ap0 ap1).2)), (40, .bool ((!(decide (((((F_FrameOfAlgebra ap0 ap1).1).1), (((F_FrameOfAlgebra ap0 ap1).1).2)) = ((((F_s_FrameOfAlgebra ap0 ap1).1).1), (((F_s_FrameOfAlgebra ap0 ap1).1).2))))) || (!decide (((F_FrameOfAlgebra ap0 ap1).2) = ((F_s_FrameOfAlgebra ap0 ap1).2)))))] ∧ St w w' [.own 2 1 b114 ((((F_FrameOfAlgebra ap0 ap1).1).2).length) c115 (((F_FrameOfAlgebra ap0 ap1).1).2), .blk b124 #[.int .i64 (((F_FrameOfAlgebra ap0 ap1).1).1), .slice b114 ((((F_FrameOfAlgebra ap0 ap1).1).2).length) c115] 26, .own 2 1 b90 ((ap1).length) c91 ap1, .blk b93 #[.int .i64 ap0, .slice b90 ((ap1).length) c91] 48, .own 2 1 b58 ((((F_s_FrameOfAlgebra ap0 ap1).1).2).length) c59 (((F_s_FrameOfAlgebra ap0 ap1).1).2), .blk b67 #[.int .i64 (((F_s_FrameOfAlgebra ap0 ap1).1).1), .slice b58 ((((F_s_FrameOfAlgebra ap0 ap1).1).2).length) c59] 26, .own 2 1 b49 ((ap1).length) c50 ap1, .rd 1 ap1A ap1.length ap1C ap1, .blk b2 #[.int .i64 ap0, .slice ap1A ap1.length ap1C] 45]) ?_ ?_
    ·
      refine c_reg ?_
      refine q_step (v := .agg #[.int .i64 (((F_FrameOfAlgebra ap0 ap1).1).1), .slice b114 ((((F_FrameOfAlgebra ap0 ap1).1).2).length) c115]) hE138 (y_loadS Try.underlying26 rfl (by kernel_rfl) rfl (St.row (i := 0) hS134 rfl)) rfl rfl rfl ?_; intro a139 hE140; clear hE138
      refine q_step (v := .agg #[.int .i64 (((F_s_FrameOfAlgebra ap0 ap1).1).1), .slice b58 ((((F_s_FrameOfAlgebra ap0 ap1).1).2).length) c59]) hE140 (y_loadS Try.underlying26 rfl (by kernel_rfl) rfl (St.row (i := 4) hS134 rfl)) rfl rfl rfl ?_; intro a141 hE142; clear hE140
      refine l_step hE142 rfl (l_call (f := 19) (argv := [.agg #[.int .i64 (((F_FrameOfAlgebra ap0 ap1).1).1), .slice b114 ((((F_FrameOfAlgebra ap0 ap1).1).2).length) c115], .agg #[.int .i64 (((F_s_FrameOfAlgebra ap0 ap1).1).1), .slice b58 ((((F_s_FrameOfAlgebra ap0 ap1).1).2).length) c59]]) hE142 (fun _ => cf_l_eqFrame _ _) rfl rfl (d_l_eqFrame (((F_FrameOfAlgebra ap0 ap1).1).1) b114 ((((F_FrameOfAlgebra ap0 ap1).1).2).length) c115 (((F_FrameOfAlgebra ap0 ap1).1).2) (((F_s_FrameOfAlgebra ap0 ap1).1).1) b58 ((((F_s_FrameOfAlgebra ap0 ap1).1).2).length) c59 (((F_s_FrameOfAlgebra ap0 ap1).1).2) w131 (St.rdO (i := 1) hS134 rfl) (St.rdO (i := 5) hS134 rfl)) ?_)
      rintro _ w144 ⟨rfl, he148⟩ a145 hE146; clear hE142
      have hS147 := St.go hS134 he148; clear hS134
      refine q_step (v := .bool (!(decide (((((F_FrameOfAlgebra ap0 ap1).1).1), (((F_FrameOfAlgebra ap0 ap1).1).2)) = ((((F_s_FrameOfAlgebra ap0 ap1).1).1), (((F_s_FrameOfAlgebra ap0 ap1).1).2)))))) hE146 (y_not rfl) rfl rfl rfl ?_; intro a149 hE150; clear hE146
      refine q_step (v := .bool (!(decide (((((F_FrameOfAlgebra ap0 ap1).1).1), (((F_FrameOfAlgebra ap0 ap1).1).2)) = ((((F_s_FrameOfAlgebra ap0 ap1).1).1), (((F_s_FrameOfAlgebra ap0 ap1).1).2)))))) hE150 (y_move rfl) rfl rfl rfl ?_; intro a151 hE152; clear hE150
      rcases Bool.eq_false_or_eq_true (!(decide (((((F_FrameOfAlgebra ap0 ap1).1).1), (((F_FrameOfAlgebra ap0 ap1).1).2)) = ((((F_s_FrameOfAlgebra ap0 ap1).1).1), (((F_s_FrameOfAlgebra ap0 ap1).1).2))))) with hb153 | hb153
      ·
        have hE154 := hE152; rw [hb153] at hE154; clear hE152
        have ht155 := bn_t hb153
        have hp156 := of_decide_eq_false ht155
        refine q_skip hE154 rfl rfl rfl ?_; intro a157 hE158; clear hE154
        refine q_skip hE158 rfl rfl rfl ?_; intro a159 hE160; clear hE158
        refine q_skip hE160 rfl rfl rfl ?_; intro a161 hE162; clear hE160
        refine q_step (v := .bool true) hE162 (y_pick (b := true) rfl rfl) rfl rfl rfl ?_; intro a163 hE164; clear hE162
        refine c_nil ?_
        have hE165 := hE164.sub (L' := [(1, .pointer (some ⟨b2, 0, none⟩)), (4, .pointer (some ⟨b67, 0, none⟩)), (5, .int .i64 ((F_s_FrameOfAlgebra ap0 ap1).2)), (6, .pointer (some ⟨b93, 0, none⟩)), (7, .pointer (some ⟨b124, 0, none⟩)), (8, .int .i64 ((F_FrameOfAlgebra ap0 ap1).2)), (40, .bool true)]) ⟨rfl, rfl, rfl, rfl, rfl, rfl, rfl, trivial⟩; clear hE164
        refine p_tn ?_
        have hE166 := hE165.sub (L' := [(1, .pointer (some ⟨b2, 0, none⟩)), (4, .pointer (some ⟨b67, 0, none⟩)), (5, .int .i64 ((F_s_FrameOfAlgebra ap0 ap1).2)), (6, .pointer (some ⟨b93, 0, none⟩)), (7, .pointer (some ⟨b124, 0, none⟩)), (8, .int .i64 ((F_FrameOfAlgebra ap0 ap1).2)), (40, .bool true)]) ⟨rfl, rfl, rfl, rfl, rfl, rfl, rfl, trivial⟩
        have hS167 := (St.pick (Γ' := [.own 2 1 b114 ((((F_FrameOfAlgebra ap0 ap1).1).2).length) c115 (((F_FrameOfAlgebra ap0 ap1).1).2), .blk b124 #[.int .i64 (((F_FrameOfAlgebra ap0 ap1).1).1), .slice b114 ((((F_FrameOfAlgebra ap0 ap1).1).2).length) c115] 26, .own 2 1 b90 ((ap1).length) c91 ap1, .blk b93 #[.int .i64 ap0, .slice b90 ((ap1).length) c91] 48, .own 2 1 b58 ((((F_s_FrameOfAlgebra ap0 ap1).1).2).length) c59 (((F_s_FrameOfAlgebra ap0 ap1).1).2), .blk b67 #[.int .i64 (((F_s_FrameOfAlgebra ap0 ap1).1).1), .slice b58 ((((F_s_FrameOfAlgebra ap0 ap1).1).2).length) c59] 26, .own 2 1 b49 ((ap1).length) c50 ap1, .rd 1 ap1A ap1.length ap1C ap1, .blk b2 #[.int .i64 ap0, .slice ap1A ap1.length ap1C] 45]) hS147 [1, 0, 3, 2, 5, 4, 6, 8, 7] (by decide) rfl)
        exact ⟨(by rw [hb153]; exact hE166), hS167⟩
      ·
        have hE168 := hE152; rw [hb153] at hE168; clear hE152
        have ht169 := bn_f hb153
        have hp170 := of_decide_eq_true ht169
        refine q_step (v := .int .i64 ((F_FrameOfAlgebra ap0 ap1).2)) hE168 (y_move rfl) rfl rfl rfl ?_; intro a171 hE172; clear hE168
        refine q_step (v := .int .i64 ((F_s_FrameOfAlgebra ap0 ap1).2)) hE172 (y_move rfl) rfl rfl rfl ?_; intro a173 hE174; clear hE172
        refine q_step (v := .bool (!decide (((F_FrameOfAlgebra ap0 ap1).2) = ((F_s_FrameOfAlgebra ap0 ap1).2)))) hE174 (y_neq rfl rfl) rfl rfl rfl ?_; intro a175 hE176; clear hE174
        refine q_step (v := .bool (!decide (((F_FrameOfAlgebra ap0 ap1).2) = ((F_s_FrameOfAlgebra ap0 ap1).2)))) hE176 (y_pick (b := false) rfl rfl) rfl rfl rfl ?_; intro a177 hE178; clear hE176
        refine c_nil ?_
        have hE179 := hE178.sub (L' := [(1, .pointer (some ⟨b2, 0, none⟩)), (4, .pointer (some ⟨b67, 0, none⟩)), (5, .int .i64 ((F_s_FrameOfAlgebra ap0 ap1).2)), (6, .pointer (some ⟨b93, 0, none⟩)), (7, .pointer (some ⟨b124, 0, none⟩)), (8, .int .i64 ((F_FrameOfAlgebra ap0 ap1).2)), (40, .bool (!decide (((F_FrameOfAlgebra ap0 ap1).2) = ((F_s_FrameOfAlgebra ap0 ap1).2))))]) ⟨rfl, rfl, rfl, rfl, rfl, rfl, rfl, trivial⟩; clear hE178
        refine p_tn ?_
        have hE180 := hE179.sub (L' := [(1, .pointer (some ⟨b2, 0, none⟩)), (4, .pointer (some ⟨b67, 0, none⟩)), (5, .int .i64 ((F_s_FrameOfAlgebra ap0 ap1).2)), (6, .pointer (some ⟨b93, 0, none⟩)), (7, .pointer (some ⟨b124, 0, none⟩)), (8, .int .i64 ((F_FrameOfAlgebra ap0 ap1).2)), (40, .bool (!decide (((F_FrameOfAlgebra ap0 ap1).2) = ((F_s_FrameOfAlgebra ap0 ap1).2))))]) ⟨rfl, rfl, rfl, rfl, rfl, rfl, rfl, trivial⟩
        have hS181 := (St.pick (Γ' := [.own 2 1 b114 ((((F_FrameOfAlgebra ap0 ap1).1).2).length) c115 (((F_FrameOfAlgebra ap0 ap1).1).2), .blk b124 #[.int .i64 (((F_FrameOfAlgebra ap0 ap1).1).1), .slice b114 ((((F_FrameOfAlgebra ap0 ap1).1).2).length) c115] 26, .own 2 1 b90 ((ap1).length) c91 ap1, .blk b93 #[.int .i64 ap0, .slice b90 ((ap1).length) c91] 48, .own 2 1 b58 ((((F_s_FrameOfAlgebra ap0 ap1).1).2).length) c59 (((F_s_FrameOfAlgebra ap0 ap1).1).2), .blk b67 #[.int .i64 (((F_s_FrameOfAlgebra ap0 ap1).1).1), .slice b58 ((((F_s_FrameOfAlgebra ap0 ap1).1).2).length) c59] 26, .own 2 1 b49 ((ap1).length) c50 ap1, .rd 1 ap1A ap1.length ap1C ap1, .blk b2 #[.int .i64 ap0, .slice ap1A ap1.length ap1C] 45]) hS147 [1, 0, 3, 2, 5, 4, 6, 8, 7] (by decide) rfl)
        exact ⟨(by rw [hb153]; exact hE180), hS181⟩
    ·
      rintro a182 w183 ⟨hE184, hS185⟩; clear hE138 hS134
      refine c_cond hE184 rfl (fun ht186 => ?_) (fun ht186 => ?_)
      ·
        have hE187 := hE184; rw [ht186] at hE187; clear hE184
        refine c_seq ?_
        refine c_reg ?_
        refine q_step (v := .bool false) hE187 (y_assign rfl) rfl rfl rfl ?_; intro a188 hE189; clear hE187
        refine c_nil ?_
        have hE190 := hE189.sub (L' := [(2, .bool false)]) ⟨rfl, trivial⟩; clear hE189
        refine p_tn ?_
        refine wp_ret ?_
        refine p_tr ?_
        have hF : F_l_FnExactFrameOfAlgebra ap0 ap1 = false := by unfold F_l_FnExactFrameOfAlgebra; rw [ht186, ht32]; first | done | rfl
        refine c_ret1 hE190 rfl rfl ?_
        exact ⟨(by rw [hF]; first | done | rfl), hS185.ext⟩
      ·
        obtain ⟨ht191, ht192⟩ := bor_f ht186
        have ht193 := bn_f ht191
        have hp194 := of_decide_eq_true ht193
        have ht195 := bn_f ht192
        have hp196 := of_decide_eq_true ht195
        have hE197 := hE184; rw [ht186] at hE197; clear hE184
        refine wp_skip ?_
        refine p_tn ?_
        refine c_seq ?_
        refine c_seq ?_
        refine d_start (fun w' => w'.heap[b93]? = some (.cells #[.int .i64 ap0, .slice b90 ((ap1).length) c91] 48 (0, 0)) ∧ w'.heap[b2]? = some (.cells #[.int .i64 ap0, .slice ap1A ap1.length ap1C] 45 (0, 0)) ∧ True) [0, 1] 5 (by kernel_rfl) rfl ?_
        intro w198 he199; have hS200 := St.go hS185 he199; clear hS185
        refine d_take (v := .agg #[.int .i64 ap0, .slice b90 ((ap1).length) c91]) 0 rfl hE197 ⟨(St.row (i := 3) hS200 rfl _ (Ext.refl _)), (St.row (i := 8) hS200 rfl _ (Ext.refl _)), trivial⟩ (y_loadS Try.underlying48 rfl (by kernel_rfl) rfl (fun _ h => h.1)) rfl rfl (by kernel_rfl) (by kernel_rfl) (by kernel_rfl) rfl rfl (fun _ _ _ h => h) ?_; intro a201 hE202; clear hE197
        refine d_take (v := .agg #[.int .i64 ap0, .slice ap1A ap1.length ap1C]) 1 rfl hE202 ⟨(St.row (i := 3) hS200 rfl _ (Ext.refl _)), (St.row (i := 8) hS200 rfl _ (Ext.refl _)), trivial⟩ (y_loadS Try.underlying45 rfl (by kernel_rfl) rfl (fun _ h => h.2.1)) rfl rfl (by kernel_rfl) (by kernel_rfl) (by kernel_rfl) rfl rfl (fun _ _ _ h => h) ?_; intro a203 hE204; clear hE202
        refine d_only 2 (by kernel_rfl) rfl hE204 rfl (l_call (f := 34) (argv := [.agg #[.int .i64 ap0, .slice ap1A ap1.length ap1C]]) hE204 (fun _ => cf_l_toModalAlgebra _ _) rfl rfl (d_l_toModalAlgebra ap0 ap1A ap1.length ap1C ap1 w198 (St.rdR (i := 7) hS200 rfl) (by first | omega | (simp only [marked_len]; omega))) ?_)
        rintro _ w206 ⟨b211, c212, rfl, ho213, he210⟩ a207 hE208; clear hE204
        have hS209 := St.own hS200 he210 ho213; clear hS200
        refine ⟨fun _ _ => ⟨(St.row (i := 4) hS209 rfl _ (Ext.refl _)), (St.row (i := 9) hS209 rfl _ (Ext.refl _)), trivial⟩, ?_⟩
        refine d_only 3 (by kernel_rfl) rfl hE208 rfl (l_call (f := 36) (argv := [.agg #[.int .i64 ap0, .slice b90 ((ap1).length) c91], .agg #[.int .i64 ap0, .slice b211 ((ap1).length) c212]]) hE208 (fun _ => cf_l_eqModalAlgebra _ _) rfl rfl (d_l_eqModalAlgebra ap0 b90 ((ap1).length) c91 ap1 ap0 b211 ((ap1).length) c212 ap1 w206 (St.rdO (i := 3) hS209 rfl) (St.rdO (i := 0) hS209 rfl)) ?_)
        rintro _ w215 ⟨rfl, he219⟩ a216 hE217; clear hE208
        have hS218 := St.go hS209 he219; clear hS209
        refine ⟨fun _ _ => ⟨(St.row (i := 4) hS218 rfl _ (Ext.refl _)), (St.row (i := 9) hS218 rfl _ (Ext.refl _)), trivial⟩, ?_⟩
        refine d_pure (v := .bool (!(decide ((ap0, ap1) = (ap0, ap1))))) 4 rfl hE217 (y_not rfl) rfl (by kernel_rfl) (by kernel_rfl) (by kernel_rfl) rfl rfl (fun _ _ _ h => h) ?_; intro a220 hE221; clear hE217
        refine d_done (by kernel_rfl) ?_
        have hE222 := hE221.sub (L' := [(1, .pointer (some ⟨b2, 0, none⟩)), (4, .pointer (some ⟨b67, 0, none⟩)), (5, .int .i64 ((F_s_FrameOfAlgebra ap0 ap1).2)), (6, .pointer (some ⟨b93, 0, none⟩)), (7, .pointer (some ⟨b124, 0, none⟩)), (8, .int .i64 ((F_FrameOfAlgebra ap0 ap1).2)), (45, .bool (!(decide ((ap0, ap1) = (ap0, ap1)))))]) ⟨rfl, rfl, rfl, rfl, rfl, rfl, rfl, trivial⟩; clear hE221
        refine p_tn ?_
        refine c_cond hE222 rfl (fun ht223 => ?_) (fun ht223 => ?_)
        ·
          have ht224 := bn_t ht223
          have hp225 := of_decide_eq_false ht224
          have hE226 := hE222; rw [ht223] at hE226; clear hE222
          refine c_seq ?_
          refine c_reg ?_
          refine q_step (v := .bool false) hE226 (y_assign rfl) rfl rfl rfl ?_; intro a227 hE228; clear hE226
          refine c_nil ?_
          have hE229 := hE228.sub (L' := [(2, .bool false)]) ⟨rfl, trivial⟩; clear hE228
          refine p_tn ?_
          refine wp_ret ?_
          refine p_tr ?_
          have hF : F_l_FnExactFrameOfAlgebra ap0 ap1 = false := by unfold F_l_FnExactFrameOfAlgebra; rw [ht223, ht186, ht32]; first | done | rfl
          refine c_ret1 hE229 rfl rfl ?_
          exact ⟨(by rw [hF]; first | done | rfl), hS218.ext⟩
        ·
          have ht230 := bn_f ht223
          have hp231 := of_decide_eq_true ht230
          have hE232 := hE222; rw [ht223] at hE232; clear hE222
          refine wp_skip ?_
          refine p_tn ?_
          refine c_seq ?_
          refine c_reg ?_
          refine q_step (v := .int .i64 1) hE232 (y_assign rfl) rfl rfl rfl ?_; intro a233 hE234; clear hE232
          refine c_nil ?_
          have hE235 := hE234.sub (L' := [(1, .pointer (some ⟨b2, 0, none⟩)), (4, .pointer (some ⟨b67, 0, none⟩)), (5, .int .i64 ((F_s_FrameOfAlgebra ap0 ap1).2)), (6, .pointer (some ⟨b93, 0, none⟩)), (7, .pointer (some ⟨b124, 0, none⟩)), (8, .int .i64 ((F_FrameOfAlgebra ap0 ap1).2)), (9, .int .i64 1)]) ⟨rfl, rfl, rfl, rfl, rfl, rfl, rfl, trivial⟩; clear hE234
          refine p_tn ?_
          refine c_seq ?_
          refine c_reg ?_
          refine q_step (v := .agg #[.int .i64 ap0, .slice b90 ((ap1).length) c91]) hE235 (y_loadS Try.underlying48 rfl (by kernel_rfl) rfl (St.row (i := 4) hS218 rfl)) rfl rfl rfl ?_; intro a236 hE237; clear hE235
          refine q_step (v := .int .i64 1) hE237 (y_move rfl) rfl rfl rfl ?_; intro a238 hE239; clear hE237
          have hS246 := (St.pick (Γ' := [.own 2 1 b90 ((ap1).length) c91 ap1, .own 2 1 b211 ((ap1).length) c212 ap1, .own 2 1 b114 ((((F_FrameOfAlgebra ap0 ap1).1).2).length) c115 (((F_FrameOfAlgebra ap0 ap1).1).2), .blk b124 #[.int .i64 (((F_FrameOfAlgebra ap0 ap1).1).1), .slice b114 ((((F_FrameOfAlgebra ap0 ap1).1).2).length) c115] 26, .blk b93 #[.int .i64 ap0, .slice b90 ((ap1).length) c91] 48, .own 2 1 b58 ((((F_s_FrameOfAlgebra ap0 ap1).1).2).length) c59 (((F_s_FrameOfAlgebra ap0 ap1).1).2), .blk b67 #[.int .i64 (((F_s_FrameOfAlgebra ap0 ap1).1).1), .slice b58 ((((F_s_FrameOfAlgebra ap0 ap1).1).2).length) c59] 26, .own 2 1 b49 ((ap1).length) c50 ap1, .rd 1 ap1A ap1.length ap1C ap1, .blk b2 #[.int .i64 ap0, .slice ap1A ap1.length ap1C] 45]) hS218 [3, 0, 1, 2, 4, 5, 6, 7, 8, 9] (by decide) rfl); clear hS218
          refine l_step hE239 rfl (l_call (f := 37) (argv := [.agg #[.int .i64 ap0, .slice b90 ((ap1).length) c91], .int .i64 1]) hE239 (fun _ => cf_l_markModalAlgebra _ _) rfl rfl (d_l_markModalAlgebra ap0 b90 ((ap1).length) c91 ap1 1 w215 w [.own 2 1 b211 ((ap1).length) c212 ap1, .own 2 1 b114 ((((F_FrameOfAlgebra ap0 ap1).1).2).length) c115 (((F_FrameOfAlgebra ap0 ap1).1).2), .blk b124 #[.int .i64 (((F_FrameOfAlgebra ap0 ap1).1).1), .slice b114 ((((F_FrameOfAlgebra ap0 ap1).1).2).length) c115] 26, .blk b93 #[.int .i64 ap0, .slice b90 ((ap1).length) c91] 48, .own 2 1 b58 ((((F_s_FrameOfAlgebra ap0 ap1).1).2).length) c59 (((F_s_FrameOfAlgebra ap0 ap1).1).2), .blk b67 #[.int .i64 (((F_s_FrameOfAlgebra ap0 ap1).1).1), .slice b58 ((((F_s_FrameOfAlgebra ap0 ap1).1).2).length) c59] 26, .own 2 1 b49 ((ap1).length) c50 ap1, .rd 1 ap1A ap1.length ap1C ap1, .blk b2 #[.int .i64 ap0, .slice ap1A ap1.length ap1C] 45] hS246 (by first | omega | (simp only [marked_len]; omega)) (by first | omega | (simp only [marked_len]; omega)) (by first | omega | (simp only [marked_len]; omega))) ?_)
          rintro _ w241 ⟨rfl, hS244⟩ a242 hE243; clear hE239 hS246
          refine q_step (v := .int .i64 (1 + (ap1.length : Int))) hE243 (y_assign rfl) rfl rfl rfl ?_; intro a247 hE248; clear hE243
          refine c_nil ?_
          have hE249 := hE248.sub (L' := [(1, .pointer (some ⟨b2, 0, none⟩)), (4, .pointer (some ⟨b67, 0, none⟩)), (5, .int .i64 ((F_s_FrameOfAlgebra ap0 ap1).2)), (7, .pointer (some ⟨b124, 0, none⟩)), (8, .int .i64 ((F_FrameOfAlgebra ap0 ap1).2)), (9, .int .i64 (1 + (ap1.length : Int)))]) ⟨rfl, rfl, rfl, rfl, rfl, rfl, trivial⟩; clear hE248
          refine p_tn ?_
          refine c_seq ?_
          refine c_cut (fun a' w' => E a' 96 [(1, .pointer (some ⟨b2, 0, none⟩)), (4, .pointer (some ⟨b67, 0, none⟩)), (5, .int .i64 ((F_s_FrameOfAlgebra ap0 ap1).2)), (7, .pointer (some ⟨b124, 0, none⟩)), (61, .bool ((decide ((1 + (ap1.length : Int)) < 0)) || ((!(decide (((((F_FrameOfAlgebra ap0 ap1).1).1), (((F_FrameOfAlgebra ap0 ap1).1).2)) = ((((F_s_FrameOfAlgebra ap0 ap1).1).1), (((F_s_FrameOfAlgebra ap0 ap1).1).2))))) || (!decide (((F_FrameOfAlgebra ap0 ap1).2) = ((F_s_FrameOfAlgebra ap0 ap1).2))))))] ∧ St w w' [.own 2 1 b90 ((ap1).length) c91 (marked ap1.length 1), .own 2 1 b211 ((ap1).length) c212 ap1, .own 2 1 b114 ((((F_FrameOfAlgebra ap0 ap1).1).2).length) c115 (((F_FrameOfAlgebra ap0 ap1).1).2), .blk b124 #[.int .i64 (((F_FrameOfAlgebra ap0 ap1).1).1), .slice b114 ((((F_FrameOfAlgebra ap0 ap1).1).2).length) c115] 26, .blk b93 #[.int .i64 ap0, .slice b90 ((ap1).length) c91] 48, .own 2 1 b58 ((((F_s_FrameOfAlgebra ap0 ap1).1).2).length) c59 (((F_s_FrameOfAlgebra ap0 ap1).1).2), .blk b67 #[.int .i64 (((F_s_FrameOfAlgebra ap0 ap1).1).1), .slice b58 ((((F_s_FrameOfAlgebra ap0 ap1).1).2).length) c59] 26, .own 2 1 b49 ((ap1).length) c50 ap1, .rd 1 ap1A ap1.length ap1C ap1, .blk b2 #[.int .i64 ap0, .slice ap1A ap1.length ap1C] 45]) ?_ ?_
          ·
            refine c_reg ?_
            refine q_step (v := .int .i64 (1 + (ap1.length : Int))) hE249 (y_move rfl) rfl rfl rfl ?_; intro a250 hE251; clear hE249
            refine q_step (v := .bool (decide ((1 + (ap1.length : Int)) < 0))) hE251 (y_lss rfl rfl) rfl rfl rfl ?_; intro a252 hE253; clear hE251
            refine q_step (v := .bool (decide ((1 + (ap1.length : Int)) < 0))) hE253 (y_move rfl) rfl rfl rfl ?_; intro a254 hE255; clear hE253
            rcases Bool.eq_false_or_eq_true (decide ((1 + (ap1.length : Int)) < 0)) with hb256 | hb256
            ·
              have hE257 := hE255; rw [hb256] at hE257; clear hE255
              have hp258 := of_decide_eq_true hb256
              refine q_skip hE257 rfl rfl rfl ?_; intro a259 hE260; clear hE257
              refine q_skip hE260 rfl rfl rfl ?_; intro a261 hE262; clear hE260
              refine q_skip hE262 rfl rfl rfl ?_; intro a263 hE264; clear hE262
              refine q_skip hE264 rfl rfl rfl ?_; intro a265 hE266; clear hE264
              refine q_step (v := .bool true) hE266 (y_pick (b := true) rfl rfl) rfl rfl rfl ?_; intro a267 hE268; clear hE266
              refine q_step (v := .bool true) hE268 (y_move rfl) rfl rfl rfl ?_; intro a269 hE270; clear hE268
              refine q_skip hE270 rfl rfl rfl ?_; intro a271 hE272; clear hE270
              refine q_skip hE272 rfl rfl rfl ?_; intro a273 hE274; clear hE272
              refine q_skip hE274 rfl rfl rfl ?_; intro a275 hE276; clear hE274
              refine q_step (v := .bool true) hE276 (y_pick (b := true) rfl rfl) rfl rfl rfl ?_; intro a277 hE278; clear hE276
              refine c_nil ?_
              have hE279 := hE278.sub (L' := [(1, .pointer (some ⟨b2, 0, none⟩)), (4, .pointer (some ⟨b67, 0, none⟩)), (5, .int .i64 ((F_s_FrameOfAlgebra ap0 ap1).2)), (7, .pointer (some ⟨b124, 0, none⟩)), (61, .bool true)]) ⟨rfl, rfl, rfl, rfl, rfl, trivial⟩; clear hE278
              refine p_tn ?_
              have hE280 := hE279.sub (L' := [(1, .pointer (some ⟨b2, 0, none⟩)), (4, .pointer (some ⟨b67, 0, none⟩)), (5, .int .i64 ((F_s_FrameOfAlgebra ap0 ap1).2)), (7, .pointer (some ⟨b124, 0, none⟩)), (61, .bool true)]) ⟨rfl, rfl, rfl, rfl, rfl, trivial⟩
              have hS281 := (St.pick (Γ' := [.own 2 1 b90 ((ap1).length) c91 (marked ap1.length 1), .own 2 1 b211 ((ap1).length) c212 ap1, .own 2 1 b114 ((((F_FrameOfAlgebra ap0 ap1).1).2).length) c115 (((F_FrameOfAlgebra ap0 ap1).1).2), .blk b124 #[.int .i64 (((F_FrameOfAlgebra ap0 ap1).1).1), .slice b114 ((((F_FrameOfAlgebra ap0 ap1).1).2).length) c115] 26, .blk b93 #[.int .i64 ap0, .slice b90 ((ap1).length) c91] 48, .own 2 1 b58 ((((F_s_FrameOfAlgebra ap0 ap1).1).2).length) c59 (((F_s_FrameOfAlgebra ap0 ap1).1).2), .blk b67 #[.int .i64 (((F_s_FrameOfAlgebra ap0 ap1).1).1), .slice b58 ((((F_s_FrameOfAlgebra ap0 ap1).1).2).length) c59] 26, .own 2 1 b49 ((ap1).length) c50 ap1, .rd 1 ap1A ap1.length ap1C ap1, .blk b2 #[.int .i64 ap0, .slice ap1A ap1.length ap1C] 45]) hS244 [0, 1, 2, 3, 4, 5, 6, 7, 8, 9] (by decide) rfl)
              exact ⟨(by rw [hb256]; exact hE280), hS281⟩
            ·
              have hE282 := hE255; rw [hb256] at hE282; clear hE255
              have hp283 := of_decide_eq_false hb256
              refine q_step (v := .agg #[.int .i64 (((F_FrameOfAlgebra ap0 ap1).1).1), .slice b114 ((((F_FrameOfAlgebra ap0 ap1).1).2).length) c115]) hE282 (y_loadS Try.underlying26 rfl (by kernel_rfl) rfl (St.row (i := 3) hS244 rfl)) rfl rfl rfl ?_; intro a284 hE285; clear hE282
              refine q_step (v := .agg #[.int .i64 (((F_s_FrameOfAlgebra ap0 ap1).1).1), .slice b58 ((((F_s_FrameOfAlgebra ap0 ap1).1).2).length) c59]) hE285 (y_loadS Try.underlying26 rfl (by kernel_rfl) rfl (St.row (i := 6) hS244 rfl)) rfl rfl rfl ?_; intro a286 hE287; clear hE285
              refine l_step hE287 rfl (l_call (f := 19) (argv := [.agg #[.int .i64 (((F_FrameOfAlgebra ap0 ap1).1).1), .slice b114 ((((F_FrameOfAlgebra ap0 ap1).1).2).length) c115], .agg #[.int .i64 (((F_s_FrameOfAlgebra ap0 ap1).1).1), .slice b58 ((((F_s_FrameOfAlgebra ap0 ap1).1).2).length) c59]]) hE287 (fun _ => cf_l_eqFrame _ _) rfl rfl (d_l_eqFrame (((F_FrameOfAlgebra ap0 ap1).1).1) b114 ((((F_FrameOfAlgebra ap0 ap1).1).2).length) c115 (((F_FrameOfAlgebra ap0 ap1).1).2) (((F_s_FrameOfAlgebra ap0 ap1).1).1) b58 ((((F_s_FrameOfAlgebra ap0 ap1).1).2).length) c59 (((F_s_FrameOfAlgebra ap0 ap1).1).2) w241 (St.rdO (i := 2) hS244 rfl) (St.rdO (i := 5) hS244 rfl)) ?_)
              rintro _ w289 ⟨rfl, he293⟩ a290 hE291; clear hE287
              have hS292 := St.go hS244 he293; clear hS244
              refine q_step (v := .bool (!(decide (((((F_FrameOfAlgebra ap0 ap1).1).1), (((F_FrameOfAlgebra ap0 ap1).1).2)) = ((((F_s_FrameOfAlgebra ap0 ap1).1).1), (((F_s_FrameOfAlgebra ap0 ap1).1).2)))))) hE291 (y_not rfl) rfl rfl rfl ?_; intro a294 hE295; clear hE291
              refine q_step (v := .bool (!(decide (((((F_FrameOfAlgebra ap0 ap1).1).1), (((F_FrameOfAlgebra ap0 ap1).1).2)) = ((((F_s_FrameOfAlgebra ap0 ap1).1).1), (((F_s_FrameOfAlgebra ap0 ap1).1).2)))))) hE295 (y_pick (b := false) rfl rfl) rfl rfl rfl ?_; intro a296 hE297; clear hE295
              refine q_step (v := .bool (!(decide (((((F_FrameOfAlgebra ap0 ap1).1).1), (((F_FrameOfAlgebra ap0 ap1).1).2)) = ((((F_s_FrameOfAlgebra ap0 ap1).1).1), (((F_s_FrameOfAlgebra ap0 ap1).1).2)))))) hE297 (y_move rfl) rfl rfl rfl ?_; intro a298 hE299; clear hE297
              rcases Bool.eq_false_or_eq_true (!(decide (((((F_FrameOfAlgebra ap0 ap1).1).1), (((F_FrameOfAlgebra ap0 ap1).1).2)) = ((((F_s_FrameOfAlgebra ap0 ap1).1).1), (((F_s_FrameOfAlgebra ap0 ap1).1).2))))) with hb300 | hb300
              ·
                have hE301 := hE299; rw [hb300] at hE301; clear hE299
                have ht302 := bn_t hb300
                have hp303 := of_decide_eq_false ht302
                refine q_skip hE301 rfl rfl rfl ?_; intro a304 hE305; clear hE301
                refine q_skip hE305 rfl rfl rfl ?_; intro a306 hE307; clear hE305
                refine q_skip hE307 rfl rfl rfl ?_; intro a308 hE309; clear hE307
                refine q_step (v := .bool true) hE309 (y_pick (b := true) rfl rfl) rfl rfl rfl ?_; intro a310 hE311; clear hE309
                refine c_nil ?_
                have hE312 := hE311.sub (L' := [(1, .pointer (some ⟨b2, 0, none⟩)), (4, .pointer (some ⟨b67, 0, none⟩)), (5, .int .i64 ((F_s_FrameOfAlgebra ap0 ap1).2)), (7, .pointer (some ⟨b124, 0, none⟩)), (61, .bool true)]) ⟨rfl, rfl, rfl, rfl, rfl, trivial⟩; clear hE311
                refine p_tn ?_
                have hE313 := hE312.sub (L' := [(1, .pointer (some ⟨b2, 0, none⟩)), (4, .pointer (some ⟨b67, 0, none⟩)), (5, .int .i64 ((F_s_FrameOfAlgebra ap0 ap1).2)), (7, .pointer (some ⟨b124, 0, none⟩)), (61, .bool true)]) ⟨rfl, rfl, rfl, rfl, rfl, trivial⟩
                have hS314 := (St.pick (Γ' := [.own 2 1 b90 ((ap1).length) c91 (marked ap1.length 1), .own 2 1 b211 ((ap1).length) c212 ap1, .own 2 1 b114 ((((F_FrameOfAlgebra ap0 ap1).1).2).length) c115 (((F_FrameOfAlgebra ap0 ap1).1).2), .blk b124 #[.int .i64 (((F_FrameOfAlgebra ap0 ap1).1).1), .slice b114 ((((F_FrameOfAlgebra ap0 ap1).1).2).length) c115] 26, .blk b93 #[.int .i64 ap0, .slice b90 ((ap1).length) c91] 48, .own 2 1 b58 ((((F_s_FrameOfAlgebra ap0 ap1).1).2).length) c59 (((F_s_FrameOfAlgebra ap0 ap1).1).2), .blk b67 #[.int .i64 (((F_s_FrameOfAlgebra ap0 ap1).1).1), .slice b58 ((((F_s_FrameOfAlgebra ap0 ap1).1).2).length) c59] 26, .own 2 1 b49 ((ap1).length) c50 ap1, .rd 1 ap1A ap1.length ap1C ap1, .blk b2 #[.int .i64 ap0, .slice ap1A ap1.length ap1C] 45]) hS292 [0, 1, 2, 3, 4, 5, 6, 7, 8, 9] (by decide) rfl)
                exact ⟨(by rw [hb300, hb256]; exact hE313), hS314⟩
              ·
                have hE315 := hE299; rw [hb300] at hE315; clear hE299
                have ht316 := bn_f hb300
                have hp317 := of_decide_eq_true ht316
                refine q_step (v := .int .i64 ((F_FrameOfAlgebra ap0 ap1).2)) hE315 (y_move rfl) rfl rfl rfl ?_; intro a318 hE319; clear hE315
                refine q_step (v := .int .i64 ((F_s_FrameOfAlgebra ap0 ap1).2)) hE319 (y_move rfl) rfl rfl rfl ?_; intro a320 hE321; clear hE319
                refine q_step (v := .bool (!decide (((F_FrameOfAlgebra ap0 ap1).2) = ((F_s_FrameOfAlgebra ap0 ap1).2)))) hE321 (y_neq rfl rfl) rfl rfl rfl ?_; intro a322 hE323; clear hE321
                refine q_step (v := .bool (!decide (((F_FrameOfAlgebra ap0 ap1).2) = ((F_s_FrameOfAlgebra ap0 ap1).2)))) hE323 (y_pick (b := false) rfl rfl) rfl rfl rfl ?_; intro a324 hE325; clear hE323
                refine c_nil ?_
                have hE326 := hE325.sub (L' := [(1, .pointer (some ⟨b2, 0, none⟩)), (4, .pointer (some ⟨b67, 0, none⟩)), (5, .int .i64 ((F_s_FrameOfAlgebra ap0 ap1).2)), (7, .pointer (some ⟨b124, 0, none⟩)), (61, .bool (!decide (((F_FrameOfAlgebra ap0 ap1).2) = ((F_s_FrameOfAlgebra ap0 ap1).2))))]) ⟨rfl, rfl, rfl, rfl, rfl, trivial⟩; clear hE325
                refine p_tn ?_
                have hE327 := hE326.sub (L' := [(1, .pointer (some ⟨b2, 0, none⟩)), (4, .pointer (some ⟨b67, 0, none⟩)), (5, .int .i64 ((F_s_FrameOfAlgebra ap0 ap1).2)), (7, .pointer (some ⟨b124, 0, none⟩)), (61, .bool (!decide (((F_FrameOfAlgebra ap0 ap1).2) = ((F_s_FrameOfAlgebra ap0 ap1).2))))]) ⟨rfl, rfl, rfl, rfl, rfl, trivial⟩
                have hS328 := (St.pick (Γ' := [.own 2 1 b90 ((ap1).length) c91 (marked ap1.length 1), .own 2 1 b211 ((ap1).length) c212 ap1, .own 2 1 b114 ((((F_FrameOfAlgebra ap0 ap1).1).2).length) c115 (((F_FrameOfAlgebra ap0 ap1).1).2), .blk b124 #[.int .i64 (((F_FrameOfAlgebra ap0 ap1).1).1), .slice b114 ((((F_FrameOfAlgebra ap0 ap1).1).2).length) c115] 26, .blk b93 #[.int .i64 ap0, .slice b90 ((ap1).length) c91] 48, .own 2 1 b58 ((((F_s_FrameOfAlgebra ap0 ap1).1).2).length) c59 (((F_s_FrameOfAlgebra ap0 ap1).1).2), .blk b67 #[.int .i64 (((F_s_FrameOfAlgebra ap0 ap1).1).1), .slice b58 ((((F_s_FrameOfAlgebra ap0 ap1).1).2).length) c59] 26, .own 2 1 b49 ((ap1).length) c50 ap1, .rd 1 ap1A ap1.length ap1C ap1, .blk b2 #[.int .i64 ap0, .slice ap1A ap1.length ap1C] 45]) hS292 [0, 1, 2, 3, 4, 5, 6, 7, 8, 9] (by decide) rfl)
                exact ⟨(by rw [hb300, hb256]; exact hE327), hS328⟩
          ·
            rintro a329 w330 ⟨hE331, hS332⟩; clear hE249 hS244
            refine c_cond hE331 rfl (fun ht333 => ?_) (fun ht333 => ?_)
            ·
              have hE334 := hE331; rw [ht333] at hE334; clear hE331
              refine c_seq ?_
              refine c_reg ?_
              refine q_step (v := .bool false) hE334 (y_assign rfl) rfl rfl rfl ?_; intro a335 hE336; clear hE334
              refine c_nil ?_
              have hE337 := hE336.sub (L' := [(2, .bool false)]) ⟨rfl, trivial⟩; clear hE336
              refine p_tn ?_
              refine wp_ret ?_
              refine p_tr ?_
              have hF : F_l_FnExactFrameOfAlgebra ap0 ap1 = false := by unfold F_l_FnExactFrameOfAlgebra; rw [ht333, ht223, ht186, ht32]; first | done | rfl
              refine c_ret1 hE337 rfl rfl ?_
              exact ⟨(by rw [hF]; first | done | rfl), hS332.ext⟩
            ·
              obtain ⟨ht338, ht339⟩ := bor_f ht333
              have hp340 := of_decide_eq_false ht338
              obtain ⟨ht341, ht342⟩ := bor_f ht339
              have ht343 := bn_f ht341
              have hp344 := of_decide_eq_true ht343
              have ht345 := bn_f ht342
              have hp346 := of_decide_eq_true ht345
              have hE347 := hE331; rw [ht333] at hE347; clear hE331
              refine wp_skip ?_
              refine p_tn ?_
              refine c_seq ?_
              refine c_reg ?_
              refine q_step (v := .int .i64 1) hE347 (y_assign rfl) rfl rfl rfl ?_; intro a348 hE349; clear hE347
              refine c_nil ?_
              have hE350 := hE349.sub (L' := [(1, .pointer (some ⟨b2, 0, none⟩)), (4, .pointer (some ⟨b67, 0, none⟩)), (5, .int .i64 ((F_s_FrameOfAlgebra ap0 ap1).2)), (7, .pointer (some ⟨b124, 0, none⟩)), (10, .int .i64 1)]) ⟨rfl, rfl, rfl, rfl, rfl, trivial⟩; clear hE349
              refine p_tn ?_
              refine c_seq ?_
              refine c_reg ?_
              refine q_step (v := .agg #[.int .i64 (((F_FrameOfAlgebra ap0 ap1).1).1), .slice b114 ((((F_FrameOfAlgebra ap0 ap1).1).2).length) c115]) hE350 (y_loadS Try.underlying26 rfl (by kernel_rfl) rfl (St.row (i := 3) hS332 rfl)) rfl rfl rfl ?_; intro a351 hE352; clear hE350
              refine q_step (v := .int .i64 1) hE352 (y_move rfl) rfl rfl rfl ?_; intro a353 hE354; clear hE352
              have hS361 := (St.pick (Γ' := [.own 2 1 b114 ((((F_FrameOfAlgebra ap0 ap1).1).2).length) c115 (((F_FrameOfAlgebra ap0 ap1).1).2), .own 2 1 b90 ((ap1).length) c91 (marked ap1.length 1), .own 2 1 b211 ((ap1).length) c212 ap1, .blk b124 #[.int .i64 (((F_FrameOfAlgebra ap0 ap1).1).1), .slice b114 ((((F_FrameOfAlgebra ap0 ap1).1).2).length) c115] 26, .blk b93 #[.int .i64 ap0, .slice b90 ((ap1).length) c91] 48, .own 2 1 b58 ((((F_s_FrameOfAlgebra ap0 ap1).1).2).length) c59 (((F_s_FrameOfAlgebra ap0 ap1).1).2), .blk b67 #[.int .i64 (((F_s_FrameOfAlgebra ap0 ap1).1).1), .slice b58 ((((F_s_FrameOfAlgebra ap0 ap1).1).2).length) c59] 26, .own 2 1 b49 ((ap1).length) c50 ap1, .rd 1 ap1A ap1.length ap1C ap1, .blk b2 #[.int .i64 ap0, .slice ap1A ap1.length ap1C] 45]) hS332 [2, 0, 1, 3, 4, 5, 6, 7, 8, 9] (by decide) rfl); clear hS332
              refine l_step hE354 rfl (l_call (f := 20) (argv := [.agg #[.int .i64 (((F_FrameOfAlgebra ap0 ap1).1).1), .slice b114 ((((F_FrameOfAlgebra ap0 ap1).1).2).length) c115], .int .i64 1]) hE354 (fun _ => cf_l_markFrame _ _) rfl rfl (d_l_markFrame (((F_FrameOfAlgebra ap0 ap1).1).1) b114 ((((F_FrameOfAlgebra ap0 ap1).1).2).length) c115 (((F_FrameOfAlgebra ap0 ap1).1).2) 1 w330 w [.own 2 1 b90 ((ap1).length) c91 (marked ap1.length 1), .own 2 1 b211 ((ap1).length) c212 ap1, .blk b124 #[.int .i64 (((F_FrameOfAlgebra ap0 ap1).1).1), .slice b114 ((((F_FrameOfAlgebra ap0 ap1).1).2).length) c115] 26, .blk b93 #[.int .i64 ap0, .slice b90 ((ap1).length) c91] 48, .own 2 1 b58 ((((F_s_FrameOfAlgebra ap0 ap1).1).2).length) c59 (((F_s_FrameOfAlgebra ap0 ap1).1).2), .blk b67 #[.int .i64 (((F_s_FrameOfAlgebra ap0 ap1).1).1), .slice b58 ((((F_s_FrameOfAlgebra ap0 ap1).1).2).length) c59] 26, .own 2 1 b49 ((ap1).length) c50 ap1, .rd 1 ap1A ap1.length ap1C ap1, .blk b2 #[.int .i64 ap0, .slice ap1A ap1.length ap1C] 45] hS361 (by first | omega | (simp only [marked_len]; omega)) (by first | omega | (simp only [marked_len]; omega)) (by first | omega | (simp only [marked_len]; omega))) ?_)
              rintro _ w356 ⟨rfl, hS359⟩ a357 hE358; clear hE354 hS361
              refine q_step (v := .int .i64 (1 + ((((F_FrameOfAlgebra ap0 ap1).1).2).length : Int))) hE358 (y_assign rfl) rfl rfl rfl ?_; intro a362 hE363; clear hE358
              refine c_nil ?_
              have hE364 := hE363.sub (L' := [(1, .pointer (some ⟨b2, 0, none⟩)), (4, .pointer (some ⟨b67, 0, none⟩)), (5, .int .i64 ((F_s_FrameOfAlgebra ap0 ap1).2)), (7, .pointer (some ⟨b124, 0, none⟩)), (10, .int .i64 (1 + ((((F_FrameOfAlgebra ap0 ap1).1).2).length : Int)))]) ⟨rfl, rfl, rfl, rfl, rfl, trivial⟩; clear hE363
              refine p_tn ?_
              refine c_seq ?_
              refine c_reg ?_
              refine q_step (v := .int .i64 1) hE364 (y_assign rfl) rfl rfl rfl ?_; intro a365 hE366; clear hE364
              refine c_nil ?_
              have hE367 := hE366.sub (L' := [(1, .pointer (some ⟨b2, 0, none⟩)), (4, .pointer (some ⟨b67, 0, none⟩)), (5, .int .i64 ((F_s_FrameOfAlgebra ap0 ap1).2)), (7, .pointer (some ⟨b124, 0, none⟩)), (10, .int .i64 (1 + ((((F_FrameOfAlgebra ap0 ap1).1).2).length : Int))), (11, .int .i64 1)]) ⟨rfl, rfl, rfl, rfl, rfl, rfl, trivial⟩; clear hE366
              refine p_tn ?_
              refine c_seq ?_
              refine c_reg ?_
              refine q_step (v := .agg #[.int .i64 (((F_FrameOfAlgebra ap0 ap1).1).1), .slice b114 ((((F_FrameOfAlgebra ap0 ap1).1).2).length) c115]) hE367 (y_loadS Try.underlying26 rfl (by kernel_rfl) rfl (St.row (i := 3) hS359 rfl)) rfl rfl rfl ?_; intro a368 hE369; clear hE367
              refine q_step (v := .int .i64 1) hE369 (y_move rfl) rfl rfl rfl ?_; intro a370 hE371; clear hE369
              refine l_step hE371 rfl (l_call (f := 21) (argv := [.agg #[.int .i64 (((F_FrameOfAlgebra ap0 ap1).1).1), .slice b114 ((((F_FrameOfAlgebra ap0 ap1).1).2).length) c115], .int .i64 1]) hE371 (fun _ => cf_l_heldFrame _ _) rfl rfl (c_l_heldFrame (((F_FrameOfAlgebra ap0 ap1).1).1) b114 ((((F_FrameOfAlgebra ap0 ap1).1).2).length) c115 (marked (((F_FrameOfAlgebra ap0 ap1).1).2).length 1) 1 w356 (St.rdO (i := 0) hS359 rfl) (by first | omega | (simp only [marked_len]; omega)) (by first | omega | (simp only [marked_len]; omega)) (by first | omega | (simp only [marked_len]; omega))) ?_)
              rintro _ w373 ⟨rfl, he377⟩ a374 hE375; clear hE371
              have hS376 := St.go hS359 he377; clear hS359
              refine q_step (v := .int .i64 (F_l_heldFrame (((F_FrameOfAlgebra ap0 ap1).1).1) (marked (((F_FrameOfAlgebra ap0 ap1).1).2).length 1) 1)) hE375 (y_assign rfl) rfl rfl rfl ?_; intro a378 hE379; clear hE375
              refine c_nil ?_
              have hE380 := hE379.sub (L' := [(1, .pointer (some ⟨b2, 0, none⟩)), (4, .pointer (some ⟨b67, 0, none⟩)), (5, .int .i64 ((F_s_FrameOfAlgebra ap0 ap1).2)), (7, .pointer (some ⟨b124, 0, none⟩)), (10, .int .i64 (1 + ((((F_FrameOfAlgebra ap0 ap1).1).2).length : Int))), (11, .int .i64 (F_l_heldFrame (((F_FrameOfAlgebra ap0 ap1).1).1) (marked (((F_FrameOfAlgebra ap0 ap1).1).2).length 1) 1))]) ⟨rfl, rfl, rfl, rfl, rfl, rfl, trivial⟩; clear hE379
              refine p_tn ?_
              refine c_seq ?_
              refine c_seq ?_
              refine c_reg ?_
              refine q_step (v := .int .i64 (F_l_heldFrame (((F_FrameOfAlgebra ap0 ap1).1).1) (marked (((F_FrameOfAlgebra ap0 ap1).1).2).length 1) 1)) hE380 (y_move rfl) rfl rfl rfl ?_; intro a381 hE382; clear hE380
              refine q_step (v := .bool (decide ((F_l_heldFrame (((F_FrameOfAlgebra ap0 ap1).1).1) (marked (((F_FrameOfAlgebra ap0 ap1).1).2).length 1) 1) < 0))) hE382 (y_lss rfl rfl) rfl rfl rfl ?_; intro a383 hE384; clear hE382
              refine c_nil ?_
              have hE385 := hE384.sub (L' := [(1, .pointer (some ⟨b2, 0, none⟩)), (4, .pointer (some ⟨b67, 0, none⟩)), (5, .int .i64 ((F_s_FrameOfAlgebra ap0 ap1).2)), (7, .pointer (some ⟨b124, 0, none⟩)), (10, .int .i64 (1 + ((((F_FrameOfAlgebra ap0 ap1).1).2).length : Int))), (11, .int .i64 (F_l_heldFrame (((F_FrameOfAlgebra ap0 ap1).1).1) (marked (((F_FrameOfAlgebra ap0 ap1).1).2).length 1) 1)), (69, .bool (decide ((F_l_heldFrame (((F_FrameOfAlgebra ap0 ap1).1).1) (marked (((F_FrameOfAlgebra ap0 ap1).1).2).length 1) 1) < 0)))]) ⟨rfl, rfl, rfl, rfl, rfl, rfl, rfl, trivial⟩; clear hE384
              refine p_tn ?_
              refine c_cond hE385 rfl (fun ht386 => ?_) (fun ht386 => ?_)
              ·
                have hp387 := of_decide_eq_true ht386
                have hE388 := hE385; rw [ht386] at hE388; clear hE385
                refine c_seq ?_
                refine c_reg ?_
                refine q_step (v := .bool false) hE388 (y_assign rfl) rfl rfl rfl ?_; intro a389 hE390; clear hE388
                refine c_nil ?_
                have hE391 := hE390.sub (L' := [(2, .bool false)]) ⟨rfl, trivial⟩; clear hE390
                refine p_tn ?_
                refine wp_ret ?_
                refine p_tr ?_
                have hF : F_l_FnExactFrameOfAlgebra ap0 ap1 = false := by unfold F_l_FnExactFrameOfAlgebra; rw [ht386, ht333, ht223, ht186, ht32]; first | done | rfl
                refine c_ret1 hE391 rfl rfl ?_
                exact ⟨(by rw [hF]; first | done | rfl), hS376.ext⟩
              ·
                have hp392 := of_decide_eq_false ht386
                have hE393 := hE385; rw [ht386] at hE393; clear hE385
                refine wp_skip ?_
                refine p_tn ?_
                refine c_seq ?_
                refine c_seq ?_
                refine c_reg ?_
                refine q_step (v := .int .i64 (F_l_heldFrame (((F_FrameOfAlgebra ap0 ap1).1).1) (marked (((F_FrameOfAlgebra ap0 ap1).1).2).length 1) 1)) hE393 (y_move rfl) rfl rfl rfl ?_; intro a394 hE395; clear hE393
                refine q_step (v := .int .i64 (1 + ((((F_FrameOfAlgebra ap0 ap1).1).2).length : Int))) hE395 (y_move rfl) rfl rfl rfl ?_; intro a396 hE397; clear hE395
                refine q_step (v := .bool (!decide ((F_l_heldFrame (((F_FrameOfAlgebra ap0 ap1).1).1) (marked (((F_FrameOfAlgebra ap0 ap1).1).2).length 1) 1) = (1 + ((((F_FrameOfAlgebra ap0 ap1).1).2).length : Int))))) hE397 (y_neq rfl rfl) rfl rfl rfl ?_; intro a398 hE399; clear hE397
                refine c_nil ?_
                have hE400 := hE399.sub (L' := [(1, .pointer (some ⟨b2, 0, none⟩)), (4, .pointer (some ⟨b67, 0, none⟩)), (5, .int .i64 ((F_s_FrameOfAlgebra ap0 ap1).2)), (7, .pointer (some ⟨b124, 0, none⟩)), (10, .int .i64 (1 + ((((F_FrameOfAlgebra ap0 ap1).1).2).length : Int))), (72, .bool (!decide ((F_l_heldFrame (((F_FrameOfAlgebra ap0 ap1).1).1) (marked (((F_FrameOfAlgebra ap0 ap1).1).2).length 1) 1) = (1 + ((((F_FrameOfAlgebra ap0 ap1).1).2).length : Int)))))]) ⟨rfl, rfl, rfl, rfl, rfl, rfl, trivial⟩; clear hE399
                refine p_tn ?_
                refine c_cond hE400 rfl (fun ht401 => ?_) (fun ht401 => ?_)
                ·
                  have ht402 := bn_t ht401
                  have hp403 := of_decide_eq_false ht402
                  have hE404 := hE400; rw [ht401] at hE404; clear hE400
                  refine c_seq ?_
                  refine c_reg ?_
                  refine q_step (v := .bool false) hE404 (y_assign rfl) rfl rfl rfl ?_; intro a405 hE406; clear hE404
                  refine c_nil ?_
                  have hE407 := hE406.sub (L' := [(2, .bool false)]) ⟨rfl, trivial⟩; clear hE406
                  refine p_tn ?_
                  refine wp_ret ?_
                  refine p_tr ?_
                  have hF : F_l_FnExactFrameOfAlgebra ap0 ap1 = false := by unfold F_l_FnExactFrameOfAlgebra; rw [ht401, ht386, ht333, ht223, ht186, ht32]; first | done | rfl
                  refine c_ret1 hE407 rfl rfl ?_
                  exact ⟨(by rw [hF]; first | done | rfl), hS376.ext⟩
                ·
                  have ht408 := bn_f ht401
                  have hp409 := of_decide_eq_true ht408
                  have hE410 := hE400; rw [ht401] at hE410; clear hE400
                  refine wp_skip ?_
                  refine p_tn ?_
                  refine c_seq ?_
                  refine c_reg ?_
                  refine q_step (v := .agg #[.int .i64 ap0, .slice ap1A ap1.length ap1C]) hE410 (y_loadS Try.underlying45 rfl (by kernel_rfl) rfl (St.row (i := 9) hS376 rfl)) rfl rfl rfl ?_; intro a411 hE412; clear hE410
                  refine l_step hE412 rfl (l_call (f := 34) (argv := [.agg #[.int .i64 ap0, .slice ap1A ap1.length ap1C]]) hE412 (fun _ => cf_l_toModalAlgebra _ _) rfl rfl (d_l_toModalAlgebra ap0 ap1A ap1.length ap1C ap1 w373 (St.rdR (i := 8) hS376 rfl) (by first | omega | (simp only [marked_len]; omega))) ?_)
                  rintro _ w414 ⟨b419, c420, rfl, ho421, he418⟩ a415 hE416; clear hE412
                  have hS417 := St.own hS376 he418 ho421; clear hS376
                  refine l_step hE416 rfl (l_call (f := 35) (argv := [.agg #[.int .i64 ap0, .slice b419 ((ap1).length) c420]]) hE416 (fun _ => cf_FrameOfAlgebra _ _) rfl rfl (c_FrameOfAlgebra ap0 b419 ((ap1).length) c420 ap1 w414 (St.rdO (i := 0) hS417 rfl)) ?_)
                  rintro _ w423 ⟨b428, c429, rfl, ho430, he427⟩ a424 hE425; clear hE416
                  have hf431 := FrameOfAlgebra_len ap0 ap1
                  have hS426 := St.own hS417 he427 ho430; clear hS417
                  refine q_step (v := .tuple #[.agg #[.int .i64 (((F_FrameOfAlgebra ap0 ap1).1).1), .slice b428 ((((F_FrameOfAlgebra ap0 ap1).1).2).length) c429], .int .i64 ((F_FrameOfAlgebra ap0 ap1).2)]) hE425 (y_move rfl) rfl rfl rfl ?_; intro a432 hE433; clear hE425
                  refine q_step (v := .agg #[.int .i64 (((F_FrameOfAlgebra ap0 ap1).1).1), .slice b428 ((((F_FrameOfAlgebra ap0 ap1).1).2).length) c429]) hE433 (y_extract rfl rfl) rfl rfl rfl ?_; intro a434 hE435; clear hE433
                  refine q_step (v := .int .i64 ((F_FrameOfAlgebra ap0 ap1).2)) hE435 (y_extract rfl rfl) rfl rfl rfl ?_; intro a436 hE437; clear hE435
                  refine l_step hE437 rfl (l_alloc (z := .agg #[.int .i64 0, .slice none 0 0]) (cs := #[.int .i64 0, .slice none 0 0]) hS426 hE437 (fun _ => by kernel_rfl) rfl rfl ?_)
                  intro b438 w439 hS442 he443 a440 hE441; clear hS426 hE437
                  refine l_step hE441 rfl (l_storeS (k := 0) (cs' := #[.int .i64 (((F_FrameOfAlgebra ap0 ap1).1).1), .slice b428 ((((F_FrameOfAlgebra ap0 ap1).1).2).length) c429]) hS442 hE441 (by kernel_rfl) rfl rfl (by kernel_rfl) rfl rfl ?_)
                  intro w445 hS448 a446 hE447; clear hS442 hE441
                  refine q_step (v := .int .i64 ((F_FrameOfAlgebra ap0 ap1).2)) hE447 (y_assign rfl) rfl rfl rfl ?_; intro a450 hE451; clear hE447
                  refine c_nil ?_
                  have hE452 := hE451.sub (L' := [(4, .pointer (some ⟨b67, 0, none⟩)), (5, .int .i64 ((F_s_FrameOfAlgebra ap0 ap1).2)), (7, .pointer (some ⟨b124, 0, none⟩)), (10, .int .i64 (1 + ((((F_FrameOfAlgebra ap0 ap1).1).2).length : Int))), (12, .pointer (some ⟨b438, 0, none⟩)), (13, .int .i64 ((F_FrameOfAlgebra ap0 ap1).2))]) ⟨rfl, rfl, rfl, rfl, rfl, rfl, trivial⟩; clear hE451
                  refine p_tn ?_
                  refine c_seq ?_
                  refine c_cut (fun a' w' => E a' 96 [(7, .pointer (some ⟨b124, 0, none⟩)), (10, .int .i64 (1 + ((((F_FrameOfAlgebra ap0 ap1).1).2).length : Int))), (87, .bool ((!(decide (((((F_FrameOfAlgebra ap0 ap1).1).1), (((F_FrameOfAlgebra ap0 ap1).1).2)) = ((((F_s_FrameOfAlgebra ap0 ap1).1).1), (((F_s_FrameOfAlgebra ap0 ap1).1).2))))) || (!decide (((F_FrameOfAlgebra ap0 ap1).2) = ((F_s_FrameOfAlgebra ap0 ap1).2)))))] ∧ St w w' [.own 2 1 b428 ((((F_FrameOfAlgebra ap0 ap1).1).2).length) c429 (((F_FrameOfAlgebra ap0 ap1).1).2), .blk b438 #[.int .i64 (((F_FrameOfAlgebra ap0 ap1).1).1), .slice b428 ((((F_FrameOfAlgebra ap0 ap1).1).2).length) c429] 26, .own 2 1 b419 ((ap1).length) c420 ap1, .own 2 1 b114 ((((F_FrameOfAlgebra ap0 ap1).1).2).length) c115 (marked (((F_FrameOfAlgebra ap0 ap1).1).2).length 1), .own 2 1 b90 ((ap1).length) c91 (marked ap1.length 1), .own 2 1 b211 ((ap1).length) c212 ap1, .blk b124 #[.int .i64 (((F_FrameOfAlgebra ap0 ap1).1).1), .slice b114 ((((F_FrameOfAlgebra ap0 ap1).1).2).length) c115] 26, .blk b93 #[.int .i64 ap0, .slice b90 ((ap1).length) c91] 48, .own 2 1 b58 ((((F_s_FrameOfAlgebra ap0 ap1).1).2).length) c59 (((F_s_FrameOfAlgebra ap0 ap1).1).2), .blk b67 #[.int .i64 (((F_s_FrameOfAlgebra ap0 ap1).1).1), .slice b58 ((((F_s_FrameOfAlgebra ap0 ap1).1).2).length) c59] 26, .own 2 1 b49 ((ap1).length) c50 ap1, .rd 1 ap1A ap1.length ap1C ap1, .blk b2 #[.int .i64 ap0, .slice ap1A ap1.length ap1C] 45]) ?_ ?_
                  ·
                    refine c_reg ?_
                    refine q_step (v := .agg #[.int .i64 (((F_FrameOfAlgebra ap0 ap1).1).1), .slice b428 ((((F_FrameOfAlgebra ap0 ap1).1).2).length) c429]) hE452 (y_loadS Try.underlying26 rfl (by kernel_rfl) rfl (St.row (i := 0) hS448 rfl)) rfl rfl rfl ?_; intro a453 hE454; clear hE452
                    refine q_step (v := .agg #[.int .i64 (((F_s_FrameOfAlgebra ap0 ap1).1).1), .slice b58 ((((F_s_FrameOfAlgebra ap0 ap1).1).2).length) c59]) hE454 (y_loadS Try.underlying26 rfl (by kernel_rfl) rfl (St.row (i := 9) hS448 rfl)) rfl rfl rfl ?_; intro a455 hE456; clear hE454
                    refine l_step hE456 rfl (l_call (f := 19) (argv := [.agg #[.int .i64 (((F_FrameOfAlgebra ap0 ap1).1).1), .slice b428 ((((F_FrameOfAlgebra ap0 ap1).1).2).length) c429], .agg #[.int .i64 (((F_s_FrameOfAlgebra ap0 ap1).1).1), .slice b58 ((((F_s_FrameOfAlgebra ap0 ap1).1).2).length) c59]]) hE456 (fun _ => cf_l_eqFrame _ _) rfl rfl (d_l_eqFrame (((F_FrameOfAlgebra ap0 ap1).1).1) b428 ((((F_FrameOfAlgebra ap0 ap1).1).2).length) c429 (((F_FrameOfAlgebra ap0 ap1).1).2) (((F_s_FrameOfAlgebra ap0 ap1).1).1) b58 ((((F_s_FrameOfAlgebra ap0 ap1).1).2).length) c59 (((F_s_FrameOfAlgebra ap0 ap1).1).2) w445 (St.rdO (i := 1) hS448 rfl) (St.rdO (i := 8) hS448 rfl)) ?_)
                    rintro _ w458 ⟨rfl, he462⟩ a459 hE460; clear hE456
                    have hS461 := St.go hS448 he462; clear hS448
                    refine q_step (v := .bool (!(decide (((((F_FrameOfAlgebra ap0 ap1).1).1), (((F_FrameOfAlgebra ap0 ap1).1).2)) = ((((F_s_FrameOfAlgebra ap0 ap1).1).1), (((F_s_FrameOfAlgebra ap0 ap1).1).2)))))) hE460 (y_not rfl) rfl rfl rfl ?_; intro a463 hE464; clear hE460
                    refine q_step (v := .bool (!(decide (((((F_FrameOfAlgebra ap0 ap1).1).1), (((F_FrameOfAlgebra ap0 ap1).1).2)) = ((((F_s_FrameOfAlgebra ap0 ap1).1).1), (((F_s_FrameOfAlgebra ap0 ap1).1).2)))))) hE464 (y_move rfl) rfl rfl rfl ?_; intro a465 hE466; clear hE464
                    rcases Bool.eq_false_or_eq_true (!(decide (((((F_FrameOfAlgebra ap0 ap1).1).1), (((F_FrameOfAlgebra ap0 ap1).1).2)) = ((((F_s_FrameOfAlgebra ap0 ap1).1).1), (((F_s_FrameOfAlgebra ap0 ap1).1).2))))) with hb467 | hb467
                    ·
                      have hE468 := hE466; rw [hb467] at hE468; clear hE466
                      have ht469 := bn_t hb467
                      have hp470 := of_decide_eq_false ht469
                      refine q_skip hE468 rfl rfl rfl ?_; intro a471 hE472; clear hE468
                      refine q_skip hE472 rfl rfl rfl ?_; intro a473 hE474; clear hE472
                      refine q_skip hE474 rfl rfl rfl ?_; intro a475 hE476; clear hE474
                      refine q_step (v := .bool true) hE476 (y_pick (b := true) rfl rfl) rfl rfl rfl ?_; intro a477 hE478; clear hE476
                      refine c_nil ?_
                      have hE479 := hE478.sub (L' := [(7, .pointer (some ⟨b124, 0, none⟩)), (10, .int .i64 (1 + ((((F_FrameOfAlgebra ap0 ap1).1).2).length : Int))), (87, .bool true)]) ⟨rfl, rfl, rfl, trivial⟩; clear hE478
                      refine p_tn ?_
                      have hE480 := hE479.sub (L' := [(7, .pointer (some ⟨b124, 0, none⟩)), (10, .int .i64 (1 + ((((F_FrameOfAlgebra ap0 ap1).1).2).length : Int))), (87, .bool true)]) ⟨rfl, rfl, rfl, trivial⟩
                      have hS481 := (St.pick (Γ' := [.own 2 1 b428 ((((F_FrameOfAlgebra ap0 ap1).1).2).length) c429 (((F_FrameOfAlgebra ap0 ap1).1).2), .blk b438 #[.int .i64 (((F_FrameOfAlgebra ap0 ap1).1).1), .slice b428 ((((F_FrameOfAlgebra ap0 ap1).1).2).length) c429] 26, .own 2 1 b419 ((ap1).length) c420 ap1, .own 2 1 b114 ((((F_FrameOfAlgebra ap0 ap1).1).2).length) c115 (marked (((F_FrameOfAlgebra ap0 ap1).1).2).length 1), .own 2 1 b90 ((ap1).length) c91 (marked ap1.length 1), .own 2 1 b211 ((ap1).length) c212 ap1, .blk b124 #[.int .i64 (((F_FrameOfAlgebra ap0 ap1).1).1), .slice b114 ((((F_FrameOfAlgebra ap0 ap1).1).2).length) c115] 26, .blk b93 #[.int .i64 ap0, .slice b90 ((ap1).length) c91] 48, .own 2 1 b58 ((((F_s_FrameOfAlgebra ap0 ap1).1).2).length) c59 (((F_s_FrameOfAlgebra ap0 ap1).1).2), .blk b67 #[.int .i64 (((F_s_FrameOfAlgebra ap0 ap1).1).1), .slice b58 ((((F_s_FrameOfAlgebra ap0 ap1).1).2).length) c59] 26, .own 2 1 b49 ((ap1).length) c50 ap1, .rd 1 ap1A ap1.length ap1C ap1, .blk b2 #[.int .i64 ap0, .slice ap1A ap1.length ap1C] 45]) hS461 [1, 0, 2, 3, 4, 5, 6, 7, 8, 9, 10, 11, 12] (by decide) rfl)
                      exact ⟨(by rw [hb467]; exact hE480), hS481⟩
                    ·
                      have hE482 := hE466; rw [hb467] at hE482; clear hE466
                      have ht483 := bn_f hb467
                      have hp484 := of_decide_eq_true ht483
                      refine q_step (v := .int .i64 ((F_FrameOfAlgebra ap0 ap1).2)) hE482 (y_move rfl) rfl rfl rfl ?_; intro a485 hE486; clear hE482
                      refine q_step (v := .int .i64 ((F_s_FrameOfAlgebra ap0 ap1).2)) hE486 (y_move rfl) rfl rfl rfl ?_; intro a487 hE488; clear hE486
                      refine q_step (v := .bool (!decide (((F_FrameOfAlgebra ap0 ap1).2) = ((F_s_FrameOfAlgebra ap0 ap1).2)))) hE488 (y_neq rfl rfl) rfl rfl rfl ?_; intro a489 hE490; clear hE488
                      refine q_step (v := .bool (!decide (((F_FrameOfAlgebra ap0 ap1).2) = ((F_s_FrameOfAlgebra ap0 ap1).2)))) hE490 (y_pick (b := false) rfl rfl) rfl rfl rfl ?_; intro a491 hE492; clear hE490
                      refine c_nil ?_
                      have hE493 := hE492.sub (L' := [(7, .pointer (some ⟨b124, 0, none⟩)), (10, .int .i64 (1 + ((((F_FrameOfAlgebra ap0 ap1).1).2).length : Int))), (87, .bool (!decide (((F_FrameOfAlgebra ap0 ap1).2) = ((F_s_FrameOfAlgebra ap0 ap1).2))))]) ⟨rfl, rfl, rfl, trivial⟩; clear hE492
                      refine p_tn ?_
                      have hE494 := hE493.sub (L' := [(7, .pointer (some ⟨b124, 0, none⟩)), (10, .int .i64 (1 + ((((F_FrameOfAlgebra ap0 ap1).1).2).length : Int))), (87, .bool (!decide (((F_FrameOfAlgebra ap0 ap1).2) = ((F_s_FrameOfAlgebra ap0 ap1).2))))]) ⟨rfl, rfl, rfl, trivial⟩
                      have hS495 := (St.pick (Γ' := [.own 2 1 b428 ((((F_FrameOfAlgebra ap0 ap1).1).2).length) c429 (((F_FrameOfAlgebra ap0 ap1).1).2), .blk b438 #[.int .i64 (((F_FrameOfAlgebra ap0 ap1).1).1), .slice b428 ((((F_FrameOfAlgebra ap0 ap1).1).2).length) c429] 26, .own 2 1 b419 ((ap1).length) c420 ap1, .own 2 1 b114 ((((F_FrameOfAlgebra ap0 ap1).1).2).length) c115 (marked (((F_FrameOfAlgebra ap0 ap1).1).2).length 1), .own 2 1 b90 ((ap1).length) c91 (marked ap1.length 1), .own 2 1 b211 ((ap1).length) c212 ap1, .blk b124 #[.int .i64 (((F_FrameOfAlgebra ap0 ap1).1).1), .slice b114 ((((F_FrameOfAlgebra ap0 ap1).1).2).length) c115] 26, .blk b93 #[.int .i64 ap0, .slice b90 ((ap1).length) c91] 48, .own 2 1 b58 ((((F_s_FrameOfAlgebra ap0 ap1).1).2).length) c59 (((F_s_FrameOfAlgebra ap0 ap1).1).2), .blk b67 #[.int .i64 (((F_s_FrameOfAlgebra ap0 ap1).1).1), .slice b58 ((((F_s_FrameOfAlgebra ap0 ap1).1).2).length) c59] 26, .own 2 1 b49 ((ap1).length) c50 ap1, .rd 1 ap1A ap1.length ap1C ap1, .blk b2 #[.int .i64 ap0, .slice ap1A ap1.length ap1C] 45]) hS461 [1, 0, 2, 3, 4, 5, 6, 7, 8, 9, 10, 11, 12] (by decide) rfl)
                      exact ⟨(by rw [hb467]; exact hE494), hS495⟩
                  ·
                    rintro a496 w497 ⟨hE498, hS499⟩; clear hE452 hS448
                    have hE500 := hE498; rw [ht186] at hE500; clear hE498
                    refine c_false hE500 rfl ?_
                    refine wp_skip ?_
                    refine p_tn ?_
                    refine c_seq ?_
                    refine c_reg ?_
                    refine q_step (v := .int .i64 1) hE500 (y_assign rfl) rfl rfl rfl ?_; intro a501 hE502; clear hE500
                    refine c_nil ?_
                    have hE503 := hE502.sub (L' := [(7, .pointer (some ⟨b124, 0, none⟩)), (10, .int .i64 (1 + ((((F_FrameOfAlgebra ap0 ap1).1).2).length : Int))), (11, .int .i64 1)]) ⟨rfl, rfl, rfl, trivial⟩; clear hE502
                    refine p_tn ?_
                    refine c_seq ?_
                    refine c_reg ?_
                    refine q_step (v := .agg #[.int .i64 (((F_FrameOfAlgebra ap0 ap1).1).1), .slice b114 ((((F_FrameOfAlgebra ap0 ap1).1).2).length) c115]) hE503 (y_loadS Try.underlying26 rfl (by kernel_rfl) rfl (St.row (i := 6) hS499 rfl)) rfl rfl rfl ?_; intro a504 hE505; clear hE503
                    refine q_step (v := .int .i64 1) hE505 (y_move rfl) rfl rfl rfl ?_; intro a506 hE507; clear hE505
                    refine l_step hE507 rfl (l_call (f := 21) (argv := [.agg #[.int .i64 (((F_FrameOfAlgebra ap0 ap1).1).1), .slice b114 ((((F_FrameOfAlgebra ap0 ap1).1).2).length) c115], .int .i64 1]) hE507 (fun _ => cf_l_heldFrame _ _) rfl rfl (c_l_heldFrame (((F_FrameOfAlgebra ap0 ap1).1).1) b114 ((((F_FrameOfAlgebra ap0 ap1).1).2).length) c115 (marked (((F_FrameOfAlgebra ap0 ap1).1).2).length 1) 1 w497 (St.rdO (i := 3) hS499 rfl) (by first | omega | (simp only [marked_len]; omega)) (by first | omega | (simp only [marked_len]; omega)) (by first | omega | (simp only [marked_len]; omega))) ?_)
                    rintro _ w509 ⟨rfl, he513⟩ a510 hE511; clear hE507
                    have hS512 := St.go hS499 he513; clear hS499
                    refine q_step (v := .int .i64 (F_l_heldFrame (((F_FrameOfAlgebra ap0 ap1).1).1) (marked (((F_FrameOfAlgebra ap0 ap1).1).2).length 1) 1)) hE511 (y_assign rfl) rfl rfl rfl ?_; intro a514 hE515; clear hE511
                    refine c_nil ?_
                    have hE516 := hE515.sub (L' := [(10, .int .i64 (1 + ((((F_FrameOfAlgebra ap0 ap1).1).2).length : Int))), (11, .int .i64 (F_l_heldFrame (((F_FrameOfAlgebra ap0 ap1).1).1) (marked (((F_FrameOfAlgebra ap0 ap1).1).2).length 1) 1))]) ⟨rfl, rfl, trivial⟩; clear hE515
                    refine p_tn ?_
                    refine c_seq ?_
                    refine c_seq ?_
                    refine c_reg ?_
                    refine q_step (v := .int .i64 (F_l_heldFrame (((F_FrameOfAlgebra ap0 ap1).1).1) (marked (((F_FrameOfAlgebra ap0 ap1).1).2).length 1) 1)) hE516 (y_move rfl) rfl rfl rfl ?_; intro a517 hE518; clear hE516
                    refine q_step (v := .bool (decide ((F_l_heldFrame (((F_FrameOfAlgebra ap0 ap1).1).1) (marked (((F_FrameOfAlgebra ap0 ap1).1).2).length 1) 1) < 0))) hE518 (y_lss rfl rfl) rfl rfl rfl ?_; intro a519 hE520; clear hE518
                    refine c_nil ?_
                    have hE521 := hE520.sub (L' := [(10, .int .i64 (1 + ((((F_FrameOfAlgebra ap0 ap1).1).2).length : Int))), (11, .int .i64 (F_l_heldFrame (((F_FrameOfAlgebra ap0 ap1).1).1) (marked (((F_FrameOfAlgebra ap0 ap1).1).2).length 1) 1)), (92, .bool (decide ((F_l_heldFrame (((F_FrameOfAlgebra ap0 ap1).1).1) (marked (((F_FrameOfAlgebra ap0 ap1).1).2).length 1) 1) < 0)))]) ⟨rfl, rfl, rfl, trivial⟩; clear hE520
                    refine p_tn ?_
                    have hE522 := hE521; rw [ht386] at hE522; clear hE521
                    refine c_false hE522 rfl ?_
                    refine wp_skip ?_
                    refine p_tn ?_
                    refine c_seq ?_
                    refine c_seq ?_
                    refine c_reg ?_
                    refine q_step (v := .int .i64 (F_l_heldFrame (((F_FrameOfAlgebra ap0 ap1).1).1) (marked (((F_FrameOfAlgebra ap0 ap1).1).2).length 1) 1)) hE522 (y_move rfl) rfl rfl rfl ?_; intro a523 hE524; clear hE522
                    refine q_step (v := .int .i64 (1 + ((((F_FrameOfAlgebra ap0 ap1).1).2).length : Int))) hE524 (y_move rfl) rfl rfl rfl ?_; intro a525 hE526; clear hE524
                    refine q_step (v := .bool (!decide ((F_l_heldFrame (((F_FrameOfAlgebra ap0 ap1).1).1) (marked (((F_FrameOfAlgebra ap0 ap1).1).2).length 1) 1) = (1 + ((((F_FrameOfAlgebra ap0 ap1).1).2).length : Int))))) hE526 (y_neq rfl rfl) rfl rfl rfl ?_; intro a527 hE528; clear hE526
                    refine c_nil ?_
                    have hE529 := hE528.sub (L' := [(95, .bool (!decide ((F_l_heldFrame (((F_FrameOfAlgebra ap0 ap1).1).1) (marked (((F_FrameOfAlgebra ap0 ap1).1).2).length 1) 1) = (1 + ((((F_FrameOfAlgebra ap0 ap1).1).2).length : Int)))))]) ⟨rfl, trivial⟩; clear hE528
                    refine p_tn ?_
                    have hE530 := hE529; rw [ht401] at hE530; clear hE529
                    refine c_false hE530 rfl ?_
                    refine wp_skip ?_
                    refine p_tn ?_
                    refine c_seq ?_
                    refine c_reg ?_
                    refine q_step (v := .bool true) hE530 (y_assign rfl) rfl rfl rfl ?_; intro a531 hE532; clear hE530
                    refine c_nil ?_
                    have hE533 := hE532.sub (L' := [(2, .bool true)]) ⟨rfl, trivial⟩; clear hE532
                    refine p_tn ?_
                    refine wp_ret ?_
                    have hF : F_l_FnExactFrameOfAlgebra ap0 ap1 = true := by unfold F_l_FnExactFrameOfAlgebra; rw [ht401, ht386, ht333, ht223, ht186, ht32]; first | done | rfl
                    refine c_ret1 hE533 rfl rfl ?_
                    exact ⟨(by rw [hF]; first | done | rfl), hS512.ext⟩

theorem FnExactFrameOfAlgebra_true (ap0 : Int) (ap1 : List Int) : F_l_FnExactFrameOfAlgebra ap0 ap1 = true := by
  unfold F_l_FnExactFrameOfAlgebra
  rw [FrameOfAlgebra_eq, heldFrame_eq _ _ _ (by omega)]
  have h1 : decide (1 + (ap1.length : Int) < 0) = false := decide_eq_false (by omega)
  have h2 : decide ((1 : Int) + ((F_s_FrameOfAlgebra ap0 ap1).1.2.length : Int) < 0) = false := decide_eq_false (by omega)
  simp [h1, h2]

end Go.Proofs.Ytgcmfjliklcbdaa
