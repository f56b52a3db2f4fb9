/- GLPN: models and contracts, printed by wip/gen/gen.py -/
import Derived.Test.YthogljcjjmclcaaGA
import Derived.Test.YthogljcjjmclcaaGPC
set_option linter.unusedVariables false
set_option linter.unusedSimpArgs false
namespace Go.Proofs.Ythogljcjjmclcaa
open Go.RowKit

def F_l_FnExactInteriorOf (pp0 : Int) (pp1 : List Int) (mask : Int) : Bool :=
  bif (decide ((F_l_szPoset pp0 pp1 1048576) < 0)) then true else (bif ((!decide (((F_InteriorOf pp0 pp1 mask).1) = ((F_s_InteriorOf pp0 pp1 mask).1))) || (!decide (((F_InteriorOf pp0 pp1 mask).2) = ((F_s_InteriorOf pp0 pp1 mask).2)))) then false else (bif (!(decide ((pp0, pp1) = (pp0, pp1)))) then false else true))
theorem cf_l_FnExactInteriorOf (args : Array Value) (w : World) : (callFunc 7 args).run Try.prog w = .ok (.enter 7 args) w := by kernel_rfl
set_option maxRecDepth 100000 in
theorem c_l_FnExactInteriorOf (pp0 : Int) (pp1A : Option Addr) (pp1N pp1C : Nat) (pp1 : List Int) (mask : Int) (w : World) (pp1R : RdS w 1 pp1A pp1N pp1C pp1) :
    Calls Try.prog 7 #[.agg #[.int .i64 pp0, .slice pp1A pp1N pp1C], .int .i64 mask] w (Ret fun v w' => v = .bool (F_l_FnExactInteriorOf pp0 pp1 mask) ∧ Ext w w') := by
  obtain rfl : pp1N = pp1.length := pp1R.len1.symm
  have pp1Le := pp1R.le
  have hS := St.nil w
  have hS1 := St.rd0 hS rfl pp1R; clear hS
  refine enter (args := [.agg #[.int .i64 pp0, .slice pp1A pp1.length pp1C], .int .i64 mask]) Try.func7 rfl rfl ?_
  rw [Try.ntmps7]; intro a hE
  have hE := hE.sub (L' := [(0, .agg #[.int .i64 pp0, .slice pp1A pp1.length pp1C]), (1, .int .i64 mask)]) ⟨rfl, rfl, trivial⟩
  refine c_seq ?_
  refine c_reg ?_
  refine l_step hE rfl (l_box (v := .agg #[.int .i64 pp0, .slice pp1A pp1.length pp1C]) (cs := #[.int .i64 pp0, .slice pp1A pp1.length pp1C]) hS1 hE rfl rfl rfl ?_)
  intro b2 w3 hS6 he7 a4 hE5; clear hS1 hE
  refine q_step (v := .bool false) hE5 (y_assign rfl) rfl rfl rfl ?_; intro a8 hE9; clear hE5
  refine c_nil ?_
  have hE10 := hE9.sub (L' := [(1, .int .i64 mask), (2, .pointer (some ⟨b2, 0, none⟩))]) ⟨rfl, rfl, trivial⟩; clear hE9
  refine p_tn ?_
  refine c_seq ?_
  refine c_reg ?_
  refine q_step (v := .int .i64 1048576) hE10 (y_assign rfl) rfl rfl rfl ?_; intro a11 hE12; clear hE10
  refine c_nil ?_
  have hE13 := hE12.sub (L' := [(1, .int .i64 mask), (2, .pointer (some ⟨b2, 0, none⟩)), (5, .int .i64 1048576)]) ⟨rfl, rfl, rfl, trivial⟩; clear hE12
  refine p_tn ?_
  refine c_seq ?_
  refine c_reg ?_
  refine q_step (v := .agg #[.int .i64 pp0, .slice pp1A pp1.length pp1C]) hE13 (y_loadS Try.underlying24 rfl (by kernel_rfl) rfl (St.row (i := 0) hS6 rfl)) rfl rfl rfl ?_; intro a14 hE15; clear hE13
  refine q_step (v := .int .i64 1048576) hE15 (y_move rfl) rfl rfl rfl ?_; intro a16 hE17; clear hE15
  refine l_step hE17 rfl (l_call (f := 14) (argv := [.agg #[.int .i64 pp0, .slice pp1A pp1.length pp1C], .int .i64 1048576]) hE17 (fun _ => cf_l_szPoset _ _) rfl rfl (c_l_szPoset pp0 pp1A pp1.length pp1C pp1 1048576 w3 (St.rdR (i := 1) hS6 rfl) (by first | omega | (simp only [marked_len]; omega) | (simp only [marked_len] at *; omega)) (by first | omega | (simp only [marked_len]; omega) | (simp only [marked_len] at *; omega))) ?_)
  rintro _ w19 ⟨rfl, he23⟩ a20 hE21; clear hE17
  have hS22 := St.go hS6 he23; clear hS6
  refine q_step (v := .int .i64 (F_l_szPoset pp0 pp1 1048576)) hE21 (y_assign rfl) rfl rfl rfl ?_; intro a24 hE25; clear hE21
  refine c_nil ?_
  have hE26 := hE25.sub (L' := [(1, .int .i64 mask), (2, .pointer (some ⟨b2, 0, none⟩)), (5, .int .i64 (F_l_szPoset pp0 pp1 1048576))]) ⟨rfl, rfl, rfl, trivial⟩; clear hE25
  refine p_tn ?_
  refine c_seq ?_
  refine c_seq ?_
  refine c_reg ?_
  refine q_step (v := .int .i64 (F_l_szPoset pp0 pp1 1048576)) hE26 (y_move rfl) rfl rfl rfl ?_; intro a27 hE28; clear hE26
  refine q_step (v := .bool (decide ((F_l_szPoset pp0 pp1 1048576) < 0))) hE28 (y_lss rfl rfl) rfl rfl rfl ?_; intro a29 hE30; clear hE28
  refine c_nil ?_
  have hE31 := hE30.sub (L' := [(1, .int .i64 mask), (2, .pointer (some ⟨b2, 0, none⟩)), (15, .bool (decide ((F_l_szPoset pp0 pp1 1048576) < 0)))]) ⟨rfl, rfl, rfl, trivial⟩; clear hE30
  refine p_tn ?_
  refine c_cond hE31 rfl (fun ht32 => ?_) (fun ht32 => ?_)
  ·
    have hp33 := of_decide_eq_true ht32
    have hE34 := hE31; rw [ht32] at hE34; clear hE31
    refine c_seq ?_
    refine c_reg ?_
    refine q_step (v := .bool true) hE34 (y_assign rfl) rfl rfl rfl ?_; intro a35 hE36; clear hE34
    refine c_nil ?_
    have hE37 := hE36.sub (L' := [(4, .bool true)]) ⟨rfl, trivial⟩; clear hE36
    refine p_tn ?_
    refine wp_ret ?_
    refine p_tr ?_
    have hF : F_l_FnExactInteriorOf pp0 pp1 mask = true := by unfold F_l_FnExactInteriorOf; rw [ht32]; first | done | rfl
    refine c_ret1 hE37 rfl rfl ?_
    exact ⟨(by rw [hF]; first | done | rfl), hS22.ext⟩
  ·
    have hp38 := of_decide_eq_false ht32
    have hq39 := szPoset_bound hp38
    have hE40 := hE31; rw [ht32] at hE40; clear hE31
    refine wp_skip ?_
    refine p_tn ?_
    refine c_seq ?_
    refine c_reg ?_
    refine q_step (v := .agg #[.int .i64 pp0, .slice pp1A pp1.length pp1C]) hE40 (y_loadS Try.underlying24 rfl (by kernel_rfl) rfl (St.row (i := 0) hS22 rfl)) rfl rfl rfl ?_; intro a41 hE42; clear hE40
    refine l_step hE42 rfl (l_call (f := 16) (argv := [.agg #[.int .i64 pp0, .slice pp1A pp1.length pp1C]]) hE42 (fun _ => cf_l_toPoset _ _) rfl rfl (d_l_toPoset pp0 pp1A pp1.length pp1C pp1 w19 (St.rdR (i := 1) hS22 rfl) (by first | omega | (simp only [marked_len]; omega) | (simp only [marked_len] at *; omega))) ?_)
    rintro _ w44 ⟨b49, c50, rfl, ho51, he48⟩ a45 hE46; clear hE42
    have hS47 := St.own hS22 he48 ho51; clear hS22
    refine q_step (v := .int .i64 mask) hE46 (y_move rfl) rfl rfl rfl ?_; intro a52 hE53; clear hE46
    refine l_step hE53 rfl (l_call (f := 27) (argv := [.agg #[.int .i64 pp0, .slice b49 ((pp1).length) c50], .int .i64 mask]) hE53 (fun _ => cf_s_InteriorOf _ _) rfl rfl (c_s_InteriorOf pp0 b49 ((pp1).length) c50 pp1 mask w44 (St.rdO (i := 0) hS47 rfl)) ?_)
    rintro _ w55 ⟨rfl, he59⟩ a56 hE57; clear hE53
    have hS58 := St.go hS47 he59; clear hS47
    refine q_step (v := .tuple #[.int .i64 ((F_s_InteriorOf pp0 pp1 mask).1), .int .i64 ((F_s_InteriorOf pp0 pp1 mask).2)]) hE57 (y_move rfl) rfl rfl rfl ?_; intro a60 hE61; clear hE57
    refine q_step (v := .int .i64 ((F_s_InteriorOf pp0 pp1 mask).1)) hE61 (y_extract rfl rfl) rfl rfl rfl ?_; intro a62 hE63; clear hE61
    refine q_step (v := .int .i64 ((F_s_InteriorOf pp0 pp1 mask).2)) hE63 (y_extract rfl rfl) rfl rfl rfl ?_; intro a64 hE65; clear hE63
    refine q_step (v := .int .i64 ((F_s_InteriorOf pp0 pp1 mask).1)) hE65 (y_assign rfl) rfl rfl rfl ?_; intro a66 hE67; clear hE65
    refine q_step (v := .int .i64 ((F_s_InteriorOf pp0 pp1 mask).2)) hE67 (y_assign rfl) rfl rfl rfl ?_; intro a68 hE69; clear hE67
    refine c_nil ?_
    have hE70 := hE69.sub (L' := [(1, .int .i64 mask), (2, .pointer (some ⟨b2, 0, none⟩)), (6, .int .i64 ((F_s_InteriorOf pp0 pp1 mask).1)), (7, .int .i64 ((F_s_InteriorOf pp0 pp1 mask).2))]) ⟨rfl, rfl, rfl, rfl, trivial⟩; clear hE69
    refine p_tn ?_
    refine c_seq ?_
    refine c_reg ?_
    refine q_step (v := .agg #[.int .i64 pp0, .slice pp1A pp1.length pp1C]) hE70 (y_loadS Try.underlying24 rfl (by kernel_rfl) rfl (St.row (i := 1) hS58 rfl)) rfl rfl rfl ?_; intro a71 hE72; clear hE70
    refine l_step hE72 rfl (l_call (f := 16) (argv := [.agg #[.int .i64 pp0, .slice pp1A pp1.length pp1C]]) hE72 (fun _ => cf_l_toPoset _ _) rfl rfl (d_l_toPoset pp0 pp1A pp1.length pp1C pp1 w55 (St.rdR (i := 2) hS58 rfl) (by first | omega | (simp only [marked_len]; omega) | (simp only [marked_len] at *; omega))) ?_)
    rintro _ w74 ⟨b79, c80, rfl, ho81, he78⟩ a75 hE76; clear hE72
    have hS77 := St.own hS58 he78 ho81; clear hS58
    refine l_step hE76 rfl (l_alloc (z := .agg #[.int .i64 0, .slice none 0 0]) (cs := #[.int .i64 0, .slice none 0 0]) hS77 hE76 (fun _ => by kernel_rfl) rfl rfl ?_)
    intro b82 w83 hS86 he87 a84 hE85; clear hS77 hE76
    refine l_step hE85 rfl (l_storeS (k := 0) (cs' := #[.int .i64 pp0, .slice b79 ((pp1).length) c80]) hS86 hE85 (by kernel_rfl) rfl rfl (by kernel_rfl) rfl rfl ?_)
    intro w89 hS92 a90 hE91; clear hS86 hE85
    refine c_nil ?_
    have hE94 := hE91.sub (L' := [(1, .int .i64 mask), (2, .pointer (some ⟨b2, 0, none⟩)), (6, .int .i64 ((F_s_InteriorOf pp0 pp1 mask).1)), (7, .int .i64 ((F_s_InteriorOf pp0 pp1 mask).2)), (8, .pointer (some ⟨b82, 0, none⟩))]) ⟨rfl, rfl, rfl, rfl, rfl, trivial⟩; clear hE91
    refine p_tn ?_
    refine c_seq ?_
    refine c_reg ?_
    refine q_step (v := .agg #[.int .i64 pp0, .slice b79 ((pp1).length) c80]) hE94 (y_loadS Try.underlying27 rfl (by kernel_rfl) rfl (St.row (i := 0) hS92 rfl)) rfl rfl rfl ?_; intro a95 hE96; clear hE94
    refine q_step (v := .int .i64 mask) hE96 (y_move rfl) rfl rfl rfl ?_; intro a97 hE98; clear hE96
    refine l_step hE98 rfl (l_call (f := 28) (argv := [.agg #[.int .i64 pp0, .slice b79 ((pp1).length) c80], .int .i64 mask]) hE98 (fun _ => cf_InteriorOf _ _) rfl rfl (c_InteriorOf pp0 b79 ((pp1).length) c80 pp1 mask w89 (St.rdO (i := 1) hS92 rfl)) ?_)
    rintro _ w100 ⟨rfl, he104⟩ a101 hE102; clear hE98
    have hS103 := St.go hS92 he104; clear hS92
    refine q_step (v := .tuple #[.int .i64 ((F_InteriorOf pp0 pp1 mask).1), .int .i64 ((F_InteriorOf pp0 pp1 mask).2)]) hE102 (y_move rfl) rfl rfl rfl ?_; intro a105 hE106; clear hE102
    refine q_step (v := .int .i64 ((F_InteriorOf pp0 pp1 mask).1)) hE106 (y_extract rfl rfl) rfl rfl rfl ?_; intro a107 hE108; clear hE106
    refine q_step (v := .int .i64 ((F_InteriorOf pp0 pp1 mask).2)) hE108 (y_extract rfl rfl) rfl rfl rfl ?_; intro a109 hE110; clear hE108
    refine q_step (v := .int .i64 ((F_InteriorOf pp0 pp1 mask).1)) hE110 (y_assign rfl) rfl rfl rfl ?_; intro a111 hE112; clear hE110
    refine q_step (v := .int .i64 ((F_InteriorOf pp0 pp1 mask).2)) hE112 (y_assign rfl) rfl rfl rfl ?_; intro a113 hE114; clear hE112
    refine c_nil ?_
    have hE115 := hE114.sub (L' := [(2, .pointer (some ⟨b2, 0, none⟩)), (6, .int .i64 ((F_s_InteriorOf pp0 pp1 mask).1)), (7, .int .i64 ((F_s_InteriorOf pp0 pp1 mask).2)), (8, .pointer (some ⟨b82, 0, none⟩)), (9, .int .i64 ((F_InteriorOf pp0 pp1 mask).1)), (10, .int .i64 ((F_InteriorOf pp0 pp1 mask).2))]) ⟨rfl, rfl, rfl, rfl, rfl, rfl, trivial⟩; clear hE114
    refine p_tn ?_
    refine c_seq ?_
    refine c_cut (fun a' w' => E a' 44 [(2, .pointer (some ⟨b2, 0, none⟩)), (8, .pointer (some ⟨b82, 0, none⟩)), (38, .bool ((!decide (((F_InteriorOf pp0 pp1 mask).1) = ((F_s_InteriorOf pp0 pp1 mask).1))) || (!decide (((F_InteriorOf pp0 pp1 mask).2) = ((F_s_InteriorOf pp0 pp1 mask).2)))))] ∧ St w w' [.own 2 1 b79 ((pp1).length) c80 pp1, .blk b82 #[.int .i64 pp0, .slice b79 ((pp1).length) c80] 27, .own 2 1 b49 ((pp1).length) c50 pp1, .rd 1 pp1A pp1.length pp1C pp1, .blk b2 #[.int .i64 pp0, .slice pp1A pp1.length pp1C] 24]) ?_ ?_
    ·
      refine c_reg ?_
      refine q_step (v := .int .i64 ((F_InteriorOf pp0 pp1 mask).1)) hE115 (y_move rfl) rfl rfl rfl ?_; intro a116 hE117; clear hE115
      refine q_step (v := .int .i64 ((F_s_InteriorOf pp0 pp1 mask).1)) hE117 (y_move rfl) rfl rfl rfl ?_; intro a118 hE119; clear hE117
      refine q_step (v := .bool (!decide (((F_InteriorOf pp0 pp1 mask).1) = ((F_s_InteriorOf pp0 pp1 mask).1)))) hE119 (y_neq rfl rfl) rfl rfl rfl ?_; intro a120 hE121; clear hE119
      refine q_step (v := .bool (!decide (((F_InteriorOf pp0 pp1 mask).1) = ((F_s_InteriorOf pp0 pp1 mask).1)))) hE121 (y_move rfl) rfl rfl rfl ?_; intro a122 hE123; clear hE121
      rcases Bool.eq_false_or_eq_true (!decide (((F_InteriorOf pp0 pp1 mask).1) = ((F_s_InteriorOf pp0 pp1 mask).1))) with hb124 | hb124
      ·
        have hE125 := hE123; rw [hb124] at hE125; clear hE123
        have ht126 := bn_t hb124
        have hp127 := of_decide_eq_false ht126
        refine q_skip hE125 rfl rfl rfl ?_; intro a128 hE129; clear hE125
        refine q_skip hE129 rfl rfl rfl ?_; intro a130 hE131; clear hE129
        refine q_skip hE131 rfl rfl rfl ?_; intro a132 hE133; clear hE131
        refine q_step (v := .bool true) hE133 (y_pick (b := true) rfl rfl) rfl rfl rfl ?_; intro a134 hE135; clear hE133
        refine c_nil ?_
        have hE136 := hE135.sub (L' := [(2, .pointer (some ⟨b2, 0, none⟩)), (8, .pointer (some ⟨b82, 0, none⟩)), (38, .bool true)]) ⟨rfl, rfl, rfl, trivial⟩; clear hE135
        refine p_tn ?_
        have hE137 := hE136.sub (L' := [(2, .pointer (some ⟨b2, 0, none⟩)), (8, .pointer (some ⟨b82, 0, none⟩)), (38, .bool true)]) ⟨rfl, rfl, rfl, trivial⟩
        have hS138 := (St.pick (Γ' := [.own 2 1 b79 ((pp1).length) c80 pp1, .blk b82 #[.int .i64 pp0, .slice b79 ((pp1).length) c80] 27, .own 2 1 b49 ((pp1).length) c50 pp1, .rd 1 pp1A pp1.length pp1C pp1, .blk b2 #[.int .i64 pp0, .slice pp1A pp1.length pp1C] 24]) hS103 [1, 0, 2, 4, 3] (by decide) rfl)
        exact ⟨(by rw [hb124]; exact hE137), hS138⟩
      ·
        have hE139 := hE123; rw [hb124] at hE139; clear hE123
        have ht140 := bn_f hb124
        have hp141 := of_decide_eq_true ht140
        refine q_step (v := .int .i64 ((F_InteriorOf pp0 pp1 mask).2)) hE139 (y_move rfl) rfl rfl rfl ?_; intro a142 hE143; clear hE139
        refine q_step (v := .int .i64 ((F_s_InteriorOf pp0 pp1 mask).2)) hE143 (y_move rfl) rfl rfl rfl ?_; intro a144 hE145; clear hE143
        refine q_step (v := .bool (!decide (((F_InteriorOf pp0 pp1 mask).2) = ((F_s_InteriorOf pp0 pp1 mask).2)))) hE145 (y_neq rfl rfl) rfl rfl rfl ?_; intro a146 hE147; clear hE145
        refine q_step (v := .bool (!decide (((F_InteriorOf pp0 pp1 mask).2) = ((F_s_InteriorOf pp0 pp1 mask).2)))) hE147 (y_pick (b := false) rfl rfl) rfl rfl rfl ?_; intro a148 hE149; clear hE147
        refine c_nil ?_
        have hE150 := hE149.sub (L' := [(2, .pointer (some ⟨b2, 0, none⟩)), (8, .pointer (some ⟨b82, 0, none⟩)), (38, .bool (!decide (((F_InteriorOf pp0 pp1 mask).2) = ((F_s_InteriorOf pp0 pp1 mask).2))))]) ⟨rfl, rfl, rfl, trivial⟩; clear hE149
        refine p_tn ?_
        have hE151 := hE150.sub (L' := [(2, .pointer (some ⟨b2, 0, none⟩)), (8, .pointer (some ⟨b82, 0, none⟩)), (38, .bool (!decide (((F_InteriorOf pp0 pp1 mask).2) = ((F_s_InteriorOf pp0 pp1 mask).2))))]) ⟨rfl, rfl, rfl, trivial⟩
        have hS152 := (St.pick (Γ' := [.own 2 1 b79 ((pp1).length) c80 pp1, .blk b82 #[.int .i64 pp0, .slice b79 ((pp1).length) c80] 27, .own 2 1 b49 ((pp1).length) c50 pp1, .rd 1 pp1A pp1.length pp1C pp1, .blk b2 #[.int .i64 pp0, .slice pp1A pp1.length pp1C] 24]) hS103 [1, 0, 2, 4, 3] (by decide) rfl)
        exact ⟨(by rw [hb124]; exact hE151), hS152⟩
    ·
      rintro a153 w154 ⟨hE155, hS156⟩; clear hE115 hS103
      refine c_cond hE155 rfl (fun ht158 => ?_) (fun ht158 => ?_)
      ·
        have hE159 := hE155; rw [ht158] at hE159; clear hE155
        refine c_seq ?_
        refine c_reg ?_
        refine q_step (v := .bool false) hE159 (y_assign rfl) rfl rfl rfl ?_; intro a160 hE161; clear hE159
        refine c_nil ?_
        have hE162 := hE161.sub (L' := [(4, .bool false)]) ⟨rfl, trivial⟩; clear hE161
        refine p_tn ?_
        refine wp_ret ?_
        refine p_tr ?_
        have hF : F_l_FnExactInteriorOf pp0 pp1 mask = false := by unfold F_l_FnExactInteriorOf; rw [ht158, ht32]; first | done | rfl
        refine c_ret1 hE162 rfl rfl ?_
        exact ⟨(by rw [hF]; first | done | rfl), hS156.ext⟩
      ·
        obtain ⟨ht163, ht164⟩ := bor_f ht158
        have ht165 := bn_f ht163
        have hp166 := of_decide_eq_true ht165
        have ht167 := bn_f ht164
        have hp168 := of_decide_eq_true ht167
        have hE169 := hE155; rw [ht158] at hE169; clear hE155
        refine wp_skip ?_
        refine p_tn ?_
        refine c_seq ?_
        refine c_seq ?_
        refine d_start (fun w w' => (fun w' => w'.heap[b82]? = some (.cells #[.int .i64 pp0, .slice b79 ((pp1).length) c80] 27 (0, 0)) ∧ w'.heap[b2]? = some (.cells #[.int .i64 pp0, .slice pp1A pp1.length pp1C] 24 (0, 0)) ∧ True) w → (fun w' => w'.heap[b82]? = some (.cells #[.int .i64 pp0, .slice b79 ((pp1).length) c80] 27 (0, 0)) ∧ w'.heap[b2]? = some (.cells #[.int .i64 pp0, .slice pp1A pp1.length pp1C] 24 (0, 0)) ∧ True) w') [0, 1] 5 (by kernel_rfl) rfl ?_
        intro w170 he171; have hS172 := St.go hS156 he171; clear hS156
        refine d_take (fun _ h => h) (fun _ _ h k => h k) (v := .agg #[.int .i64 pp0, .slice b79 ((pp1).length) c80]) 0 rfl hE169 (S := fun w' => w'.heap[b82]? = some (.cells #[.int .i64 pp0, .slice b79 ((pp1).length) c80] 27 (0, 0)) ∧ w'.heap[b2]? = some (.cells #[.int .i64 pp0, .slice pp1A pp1.length pp1C] 24 (0, 0)) ∧ True) ⟨(St.row (i := 1) hS172 rfl _ (Ext.refl _)), (St.row (i := 4) hS172 rfl _ (Ext.refl _)), trivial⟩ (y_loadS Try.underlying27 rfl (by kernel_rfl) rfl (fun _ h => h.1)) rfl rfl (by kernel_rfl) (by kernel_rfl) (by kernel_rfl) (by kernel_rfl) rfl rfl (fun _ _ _ h => h) ?_; intro a173 hE174; clear hE169
        refine d_take (fun _ h => h) (fun _ _ h k => h k) (v := .agg #[.int .i64 pp0, .slice pp1A pp1.length pp1C]) 1 rfl hE174 (S := fun w' => w'.heap[b82]? = some (.cells #[.int .i64 pp0, .slice b79 ((pp1).length) c80] 27 (0, 0)) ∧ w'.heap[b2]? = some (.cells #[.int .i64 pp0, .slice pp1A pp1.length pp1C] 24 (0, 0)) ∧ True) ⟨(St.row (i := 1) hS172 rfl _ (Ext.refl _)), (St.row (i := 4) hS172 rfl _ (Ext.refl _)), trivial⟩ (y_loadS Try.underlying24 rfl (by kernel_rfl) rfl (fun _ h => h.2.1)) rfl rfl (by kernel_rfl) (by kernel_rfl) (by kernel_rfl) (by kernel_rfl) rfl rfl (fun _ _ _ h => h) ?_; intro a175 hE176; clear hE174
        refine d_only 2 (by kernel_rfl) rfl hE176 rfl (l_call (f := 16) (argv := [.agg #[.int .i64 pp0, .slice pp1A pp1.length pp1C]]) hE176 (fun _ => cf_l_toPoset _ _) rfl rfl (d_l_toPoset pp0 pp1A pp1.length pp1C pp1 w170 (St.rdR (i := 3) hS172 rfl) (by first | omega | (simp only [marked_len]; omega) | (simp only [marked_len] at *; omega))) ?_)
        rintro _ w178 ⟨b183, c184, rfl, ho185, he182⟩ a179 hE180; clear hE176
        have hS181 := St.own hS172 he182 ho185; clear hS172
        refine ⟨fun _ _ => ⟨(St.row (i := 2) hS181 rfl _ (Ext.refl _)), (St.row (i := 5) hS181 rfl _ (Ext.refl _)), trivial⟩, ?_⟩
        refine d_only 3 (by kernel_rfl) rfl hE180 rfl (l_call (f := 18) (argv := [.agg #[.int .i64 pp0, .slice b79 ((pp1).length) c80], .agg #[.int .i64 pp0, .slice b183 ((pp1).length) c184]]) hE180 (fun _ => cf_l_eqPoset _ _) rfl rfl (d_l_eqPoset pp0 b79 ((pp1).length) c80 pp1 pp0 b183 ((pp1).length) c184 pp1 w178 (St.rdO (i := 1) hS181 rfl) (St.rdO (i := 0) hS181 rfl)) ?_)
        rintro _ w187 ⟨rfl, he191⟩ a188 hE189; clear hE180
        have hS190 := St.go hS181 he191; clear hS181
        refine ⟨fun h => Bool.noConfusion (h.symm.trans (show exm _ _ _ = true by kernel_rfl)), ?_⟩
        refine d_pure (fun _ h => h) (v := .bool (!(decide ((pp0, pp1) = (pp0, pp1))))) 4 rfl hE189 (y_not rfl) rfl (by kernel_rfl) (by kernel_rfl) (by kernel_rfl) rfl rfl (fun _ _ _ h => h) ?_; intro a192 hE193; clear hE189
        refine d_done (by kernel_rfl) ?_
        have hE194 := hE193.sub (L' := [(43, .bool (!(decide ((pp0, pp1) = (pp0, pp1)))))]) ⟨rfl, trivial⟩; clear hE193
        refine p_tn ?_
        refine c_cond hE194 rfl (fun ht195 => ?_) (fun ht195 => ?_)
        ·
          have ht196 := bn_t ht195
          have hp197 := of_decide_eq_false ht196
          have hE198 := hE194; rw [ht195] at hE198; clear hE194
          refine c_seq ?_
          refine c_reg ?_
          refine q_step (v := .bool false) hE198 (y_assign rfl) rfl rfl rfl ?_; intro a199 hE200; clear hE198
          refine c_nil ?_
          have hE201 := hE200.sub (L' := [(4, .bool false)]) ⟨rfl, trivial⟩; clear hE200
          refine p_tn ?_
          refine wp_ret ?_
          refine p_tr ?_
          have hF : F_l_FnExactInteriorOf pp0 pp1 mask = false := by unfold F_l_FnExactInteriorOf; rw [ht195, ht158, ht32]; first | done | rfl
          refine c_ret1 hE201 rfl rfl ?_
          exact ⟨(by rw [hF]; first | done | rfl), hS190.ext⟩
        ·
          have ht202 := bn_f ht195
          have hp203 := of_decide_eq_true ht202
          have hE204 := hE194; rw [ht195] at hE204; clear hE194
          refine wp_skip ?_
          refine p_tn ?_
          refine c_seq ?_
          refine c_reg ?_
          refine q_step (v := .bool true) hE204 (y_assign rfl) rfl rfl rfl ?_; intro a205 hE206; clear hE204
          refine c_nil ?_
          have hE207 := hE206.sub (L' := [(4, .bool true)]) ⟨rfl, trivial⟩; clear hE206
          refine p_tn ?_
          refine wp_ret ?_
          have hF : F_l_FnExactInteriorOf pp0 pp1 mask = true := by unfold F_l_FnExactInteriorOf; rw [ht195, ht158, ht32]; first | done | rfl
          refine c_ret1 hE207 rfl rfl ?_
          exact ⟨(by rw [hF]; first | done | rfl), hS190.ext⟩

theorem FnExactInteriorOf_true (pp0 : Int) (pp1 : List Int) (mask : Int) : F_l_FnExactInteriorOf pp0 pp1 mask = true := by
  unfold F_l_FnExactInteriorOf
  rw [InteriorOf_eq]
  have h1 : decide (1 + (pp1.length : Int) < 0) = false := decide_eq_false (by omega)
  simp [h1]

end Go.Proofs.Ythogljcjjmclcaa
