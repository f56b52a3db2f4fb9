/- GLPW: models and contracts, printed by wip/gen/gen.py -/
import Derived.Test.YtlbonhloeefnmaaGA
import Derived.Test.YtlbonhloeefnmaaGPW
set_option linter.unusedVariables false
set_option linter.unusedSimpArgs false
namespace Go.Proofs.Ytlbonhloeefnmaa
open Go.RowKit

def F_l_FnExactWidthOf (pp0 : Int) (pp1 : List Int) : Bool :=
  bif (decide ((F_l_szPoset pp0 pp1 1048576) < 0)) then true else (bif ((!decide (((F_WidthOf pp0 pp1).1) = ((F_s_WidthOf pp0 pp1).1))) || (!decide (((F_WidthOf pp0 pp1).2) = ((F_s_WidthOf pp0 pp1).2)))) then false else (bif (!(decide ((pp0, pp1) = (pp0, pp1)))) then false else true))
theorem cf_l_FnExactWidthOf (args : Array Value) (w : World) : (callFunc 7 args).run Try.prog w = .ok (.enter 7 args) w := by kernel_rfl
set_option maxRecDepth 100000 in
theorem c_l_FnExactWidthOf (pp0 : Int) (pp1A : Option Addr) (pp1N pp1C : Nat) (pp1 : List Int) (w : World) (pp1R : RdS w 1 pp1A pp1N pp1C pp1) :
    Calls Try.prog 7 #[.agg #[.int .i64 pp0, .slice pp1A pp1N pp1C]] w (Ret fun v w' => v = .bool (F_l_FnExactWidthOf pp0 pp1) ∧ Ext w w') := by
  obtain rfl : pp1N = pp1.length := pp1R.len1.symm
  have pp1Le := pp1R.le
  have hS := St.nil w
  have hS1 := St.rd0 hS rfl pp1R; clear hS
  refine enter (args := [.agg #[.int .i64 pp0, .slice pp1A pp1.length pp1C]]) Try.func7 rfl rfl ?_
  rw [Try.ntmps7]; intro a hE
  have hE := hE.sub (L' := [(0, .agg #[.int .i64 pp0, .slice pp1A pp1.length pp1C])]) ⟨rfl, trivial⟩
  refine c_seq ?_
  refine c_reg ?_
  refine l_step hE rfl (l_box (v := .agg #[.int .i64 pp0, .slice pp1A pp1.length pp1C]) (cs := #[.int .i64 pp0, .slice pp1A pp1.length pp1C]) hS1 hE rfl rfl rfl ?_)
  intro b2 w3 hS6 he7 a4 hE5; clear hS1 hE
  refine q_step (v := .bool false) hE5 (y_assign rfl) rfl rfl rfl ?_; intro a8 hE9; clear hE5
  refine c_nil ?_
  have hE10 := hE9.sub (L' := [(1, .pointer (some ⟨b2, 0, none⟩))]) ⟨rfl, trivial⟩; clear hE9
  refine p_tn ?_
  refine c_seq ?_
  refine c_reg ?_
  refine q_step (v := .int .i64 1048576) hE10 (y_assign rfl) rfl rfl rfl ?_; intro a11 hE12; clear hE10
  refine c_nil ?_
  have hE13 := hE12.sub (L' := [(1, .pointer (some ⟨b2, 0, none⟩)), (3, .int .i64 1048576)]) ⟨rfl, rfl, trivial⟩; clear hE12
  refine p_tn ?_
  refine c_seq ?_
  refine c_reg ?_
  refine q_step (v := .agg #[.int .i64 pp0, .slice pp1A pp1.length pp1C]) hE13 (y_loadS Try.underlying51 rfl (by kernel_rfl) rfl (St.row (i := 0) hS6 rfl)) rfl rfl rfl ?_; intro a14 hE15; clear hE13
  refine q_step (v := .int .i64 1048576) hE15 (y_move rfl) rfl rfl rfl ?_; intro a16 hE17; clear hE15
  refine l_step hE17 rfl (l_call (f := 34) (argv := [.agg #[.int .i64 pp0, .slice pp1A pp1.length pp1C], .int .i64 1048576]) hE17 (fun _ => cf_l_szPoset _ _) rfl rfl (c_l_szPoset pp0 pp1A pp1.length pp1C pp1 1048576 w3 (St.rdR (i := 1) hS6 rfl) (by first | omega | (simp only [marked_len]; omega) | (simp only [marked_len] at *; omega)) (by first | omega | (simp only [marked_len]; omega) | (simp only [marked_len] at *; omega))) ?_)
  rintro _ w19 ⟨rfl, he23⟩ a20 hE21; clear hE17
  have hS22 := St.go hS6 he23; clear hS6
  refine q_step (v := .int .i64 (F_l_szPoset pp0 pp1 1048576)) hE21 (y_assign rfl) rfl rfl rfl ?_; intro a24 hE25; clear hE21
  refine c_nil ?_
  have hE26 := hE25.sub (L' := [(1, .pointer (some ⟨b2, 0, none⟩)), (3, .int .i64 (F_l_szPoset pp0 pp1 1048576))]) ⟨rfl, rfl, trivial⟩; clear hE25
  refine p_tn ?_
  refine c_seq ?_
  refine c_seq ?_
  refine c_reg ?_
  refine q_step (v := .int .i64 (F_l_szPoset pp0 pp1 1048576)) hE26 (y_move rfl) rfl rfl rfl ?_; intro a27 hE28; clear hE26
  refine q_step (v := .bool (decide ((F_l_szPoset pp0 pp1 1048576) < 0))) hE28 (y_lss rfl rfl) rfl rfl rfl ?_; intro a29 hE30; clear hE28
  refine c_nil ?_
  have hE31 := hE30.sub (L' := [(1, .pointer (some ⟨b2, 0, none⟩)), (13, .bool (decide ((F_l_szPoset pp0 pp1 1048576) < 0)))]) ⟨rfl, rfl, trivial⟩; clear hE30
  refine p_tn ?_
  refine c_cond hE31 rfl (fun ht32 => ?_) (fun ht32 => ?_)
  ·
   have hp33 := of_decide_eq_true ht32
   have hE34 := hE31; rw [ht32] at hE34; clear hE31
   refine c_seq ?_
   refine c_reg ?_
   refine q_step (v := .bool true) hE34 (y_assign rfl) rfl rfl rfl ?_; intro a35 hE36; clear hE34
   refine c_nil ?_
   have hE37 := hE36.sub (L' := [(2, .bool true)]) ⟨rfl, trivial⟩; clear hE36
   refine p_tn ?_
   refine wp_ret ?_
   refine p_tr ?_
   have hF : F_l_FnExactWidthOf pp0 pp1 = true := by unfold F_l_FnExactWidthOf; rw [ht32]; first | done | rfl
   refine c_ret1 hE37 rfl rfl ?_
   exact ⟨(by rw [hF]; first | done | (dsimp only; done) | rfl), hS22.ext⟩
  ·
   have hp38 := of_decide_eq_false ht32
   have hq39 := szPoset_bound hp38
   have hE40 := hE31; rw [ht32] at hE40; clear hE31
   refine wp_skip ?_
   refine p_tn ?_
   refine c_seq ?_
   refine c_reg ?_
   refine q_step (v := .agg #[.int .i64 pp0, .slice pp1A pp1.length pp1C]) hE40 (y_loadS Try.underlying51 rfl (by kernel_rfl) rfl (St.row (i := 0) hS22 rfl)) rfl rfl rfl ?_; intro a41 hE42; clear hE40
   refine l_step hE42 rfl (l_call (f := 36) (argv := [.agg #[.int .i64 pp0, .slice pp1A pp1.length pp1C]]) hE42 (fun _ => cf_l_toPoset _ _) rfl rfl (d_l_toPoset pp0 pp1A pp1.length pp1C pp1 w19 (St.rdR (i := 1) hS22 rfl) (by first | omega | (simp only [marked_len]; omega) | (simp only [marked_len] at *; omega))) ?_)
   rintro _ w44 ⟨b49, c50, rfl, ho51, he48⟩ a45 hE46; clear hE42
   have hS47 := St.own hS22 he48 ho51; clear hS22
   refine l_step hE46 rfl (l_call (f := 35) (argv := [.agg #[.int .i64 pp0, .slice b49 ((pp1).length) c50]]) hE46 (fun _ => cf_s_WidthOf _ _) rfl rfl (c_s_WidthOf pp0 b49 ((pp1).length) c50 pp1 w44 (St.rdO (i := 0) hS47 rfl)) ?_)
   rintro _ w53 ⟨rfl, he57⟩ a54 hE55; clear hE46
   have hS56 := St.go hS47 he57; clear hS47
   refine q_step (v := .tuple #[.int .i64 ((F_s_WidthOf pp0 pp1).1), .int .i64 ((F_s_WidthOf pp0 pp1).2)]) hE55 (y_move rfl) rfl rfl rfl ?_; intro a58 hE59; clear hE55
   refine q_step (v := .int .i64 ((F_s_WidthOf pp0 pp1).1)) hE59 (y_extract rfl rfl) rfl rfl rfl ?_; intro a60 hE61; clear hE59
   refine q_step (v := .int .i64 ((F_s_WidthOf pp0 pp1).2)) hE61 (y_extract rfl rfl) rfl rfl rfl ?_; intro a62 hE63; clear hE61
   refine q_step (v := .int .i64 ((F_s_WidthOf pp0 pp1).1)) hE63 (y_assign rfl) rfl rfl rfl ?_; intro a64 hE65; clear hE63
   refine q_step (v := .int .i64 ((F_s_WidthOf pp0 pp1).2)) hE65 (y_assign rfl) rfl rfl rfl ?_; intro a66 hE67; clear hE65
   refine c_nil ?_
   have hE68 := hE67.sub (L' := [(1, .pointer (some ⟨b2, 0, none⟩)), (4, .int .i64 ((F_s_WidthOf pp0 pp1).1)), (5, .int .i64 ((F_s_WidthOf pp0 pp1).2))]) ⟨rfl, rfl, rfl, trivial⟩; clear hE67
   refine p_tn ?_
   refine c_seq ?_
   refine c_reg ?_
   refine q_step (v := .agg #[.int .i64 pp0, .slice pp1A pp1.length pp1C]) hE68 (y_loadS Try.underlying51 rfl (by kernel_rfl) rfl (St.row (i := 1) hS56 rfl)) rfl rfl rfl ?_; intro a69 hE70; clear hE68
   refine l_step hE70 rfl (l_call (f := 36) (argv := [.agg #[.int .i64 pp0, .slice pp1A pp1.length pp1C]]) hE70 (fun _ => cf_l_toPoset _ _) rfl rfl (d_l_toPoset pp0 pp1A pp1.length pp1C pp1 w53 (St.rdR (i := 2) hS56 rfl) (by first | omega | (simp only [marked_len]; omega) | (simp only [marked_len] at *; omega))) ?_)
   rintro _ w72 ⟨b77, c78, rfl, ho79, he76⟩ a73 hE74; clear hE70
   have hS75 := St.own hS56 he76 ho79; clear hS56
   refine l_step hE74 rfl (l_alloc (z := .agg #[.int .i64 0, .slice none 0 0]) (cs := #[.int .i64 0, .slice none 0 0]) hS75 hE74 (fun _ => by kernel_rfl) rfl rfl ?_)
   intro b80 w81 hS84 he85 a82 hE83; clear hS75 hE74
   refine l_step hE83 rfl (l_storeS (k := 0) (cs' := #[.int .i64 pp0, .slice b77 ((pp1).length) c78]) hS84 hE83 (by kernel_rfl) rfl rfl (by kernel_rfl) rfl rfl ?_)
   intro w87 hS90 a88 hE89; clear hS84 hE83
   refine c_nil ?_
   have hE92 := hE89.sub (L' := [(1, .pointer (some ⟨b2, 0, none⟩)), (4, .int .i64 ((F_s_WidthOf pp0 pp1).1)), (5, .int .i64 ((F_s_WidthOf pp0 pp1).2)), (6, .pointer (some ⟨b80, 0, none⟩))]) ⟨rfl, rfl, rfl, rfl, trivial⟩; clear hE89
   refine p_tn ?_
   refine c_seq ?_
   refine c_reg ?_
   refine q_step (v := .agg #[.int .i64 pp0, .slice b77 ((pp1).length) c78]) hE92 (y_loadS Try.underlying54 rfl (by kernel_rfl) rfl (St.row (i := 0) hS90 rfl)) rfl rfl rfl ?_; intro a93 hE94; clear hE92
   refine l_step hE94 rfl (l_call (f := 37) (argv := [.agg #[.int .i64 pp0, .slice b77 ((pp1).length) c78]]) hE94 (fun _ => cf_WidthOf _ _) rfl rfl (c_WidthOf pp0 b77 ((pp1).length) c78 pp1 w87 (St.rdO (i := 1) hS90 rfl)) ?_)
   rintro _ w96 ⟨rfl, he100⟩ a97 hE98; clear hE94
   have hS99 := St.go hS90 he100; clear hS90
   refine q_step (v := .tuple #[.int .i64 ((F_WidthOf pp0 pp1).1), .int .i64 ((F_WidthOf pp0 pp1).2)]) hE98 (y_move rfl) rfl rfl rfl ?_; intro a101 hE102; clear hE98
   refine q_step (v := .int .i64 ((F_WidthOf pp0 pp1).1)) hE102 (y_extract rfl rfl) rfl rfl rfl ?_; intro a103 hE104; clear hE102
   refine q_step (v := .int .i64 ((F_WidthOf pp0 pp1).2)) hE104 (y_extract rfl rfl) rfl rfl rfl ?_; intro a105 hE106; clear hE104
   refine q_step (v := .int .i64 ((F_WidthOf pp0 pp1).1)) hE106 (y_assign rfl) rfl rfl rfl ?_; intro a107 hE108; clear hE106
   refine q_step (v := .int .i64 ((F_WidthOf pp0 pp1).2)) hE108 (y_assign rfl) rfl rfl rfl ?_; intro a109 hE110; clear hE108
   refine c_nil ?_
   have hE111 := hE110.sub (L' := [(1, .pointer (some ⟨b2, 0, none⟩)), (4, .int .i64 ((F_s_WidthOf pp0 pp1).1)), (5, .int .i64 ((F_s_WidthOf pp0 pp1).2)), (6, .pointer (some ⟨b80, 0, none⟩)), (7, .int .i64 ((F_WidthOf pp0 pp1).1)), (8, .int .i64 ((F_WidthOf pp0 pp1).2))]) ⟨rfl, rfl, rfl, rfl, rfl, rfl, trivial⟩; clear hE110
   refine p_tn ?_
   refine c_seq ?_
   refine c_cut (fun a' w' => E a' 40 [(1, .pointer (some ⟨b2, 0, none⟩)), (6, .pointer (some ⟨b80, 0, none⟩)), (34, .bool ((!decide (((F_WidthOf pp0 pp1).1) = ((F_s_WidthOf pp0 pp1).1))) || (!decide (((F_WidthOf pp0 pp1).2) = ((F_s_WidthOf pp0 pp1).2)))))] ∧ St w w' [.own 2 1 b77 ((pp1).length) c78 pp1, .blk b80 #[.int .i64 pp0, .slice b77 ((pp1).length) c78] 54, .own 2 1 b49 ((pp1).length) c50 pp1, .rd 1 pp1A pp1.length pp1C pp1, .blk b2 #[.int .i64 pp0, .slice pp1A pp1.length pp1C] 51]) ?_ ?_
   ·
    refine c_reg ?_
    refine q_step (v := .int .i64 ((F_WidthOf pp0 pp1).1)) hE111 (y_move rfl) rfl rfl rfl ?_; intro a112 hE113; clear hE111
    refine q_step (v := .int .i64 ((F_s_WidthOf pp0 pp1).1)) hE113 (y_move rfl) rfl rfl rfl ?_; intro a114 hE115; clear hE113
    refine q_step (v := .bool (!decide (((F_WidthOf pp0 pp1).1) = ((F_s_WidthOf pp0 pp1).1)))) hE115 (y_neq rfl rfl) rfl rfl rfl ?_; intro a116 hE117; clear hE115
    refine q_step (v := .bool (!decide (((F_WidthOf pp0 pp1).1) = ((F_s_WidthOf pp0 pp1).1)))) hE117 (y_move rfl) rfl rfl rfl ?_; intro a118 hE119; clear hE117
    rcases Bool.eq_false_or_eq_true (!decide (((F_WidthOf pp0 pp1).1) = ((F_s_WidthOf pp0 pp1).1))) with hb120 | hb120
    ·
     have hE121 := hE119; (try rw [hb120] at hE121); clear hE119
     have ht122 := bn_t hb120
     have hp123 := of_decide_eq_false ht122
     refine q_skip hE121 rfl rfl rfl ?_; intro a124 hE125; clear hE121
     refine q_skip hE125 rfl rfl rfl ?_; intro a126 hE127; clear hE125
     refine q_skip hE127 rfl rfl rfl ?_; intro a128 hE129; clear hE127
     refine q_step (v := .bool true) hE129 (y_pick (b := true) rfl rfl) rfl rfl rfl ?_; intro a130 hE131; clear hE129
     refine c_nil ?_
     have hE132 := hE131.sub (L' := [(1, .pointer (some ⟨b2, 0, none⟩)), (6, .pointer (some ⟨b80, 0, none⟩)), (34, .bool true)]) ⟨rfl, rfl, rfl, trivial⟩; clear hE131
     refine p_tn ?_
     have hE133 := hE132.sub (L' := [(1, .pointer (some ⟨b2, 0, none⟩)), (6, .pointer (some ⟨b80, 0, none⟩)), (34, .bool true)]) ⟨rfl, rfl, rfl, trivial⟩
     have hS134 := (St.pick (Γ' := [.own 2 1 b77 ((pp1).length) c78 pp1, .blk b80 #[.int .i64 pp0, .slice b77 ((pp1).length) c78] 54, .own 2 1 b49 ((pp1).length) c50 pp1, .rd 1 pp1A pp1.length pp1C pp1, .blk b2 #[.int .i64 pp0, .slice pp1A pp1.length pp1C] 51]) hS99 [1, 0, 2, 4, 3] (by decide) rfl)
     exact ⟨(by rw [hb120]; exact hE133), hS134⟩
    ·
     have hE135 := hE119; (try rw [hb120] at hE135); clear hE119
     have ht136 := bn_f hb120
     have hp137 := of_decide_eq_true ht136
     refine q_step (v := .int .i64 ((F_WidthOf pp0 pp1).2)) hE135 (y_move rfl) rfl rfl rfl ?_; intro a138 hE139; clear hE135
     refine q_step (v := .int .i64 ((F_s_WidthOf pp0 pp1).2)) hE139 (y_move rfl) rfl rfl rfl ?_; intro a140 hE141; clear hE139
     refine q_step (v := .bool (!decide (((F_WidthOf pp0 pp1).2) = ((F_s_WidthOf pp0 pp1).2)))) hE141 (y_neq rfl rfl) rfl rfl rfl ?_; intro a142 hE143; clear hE141
     refine q_step (v := .bool (!decide (((F_WidthOf pp0 pp1).2) = ((F_s_WidthOf pp0 pp1).2)))) hE143 (y_pick (b := false) rfl rfl) rfl rfl rfl ?_; intro a144 hE145; clear hE143
     refine c_nil ?_
     have hE146 := hE145.sub (L' := [(1, .pointer (some ⟨b2, 0, none⟩)), (6, .pointer (some ⟨b80, 0, none⟩)), (34, .bool (!decide (((F_WidthOf pp0 pp1).2) = ((F_s_WidthOf pp0 pp1).2))))]) ⟨rfl, rfl, rfl, trivial⟩; clear hE145
     refine p_tn ?_
     have hE147 := hE146.sub (L' := [(1, .pointer (some ⟨b2, 0, none⟩)), (6, .pointer (some ⟨b80, 0, none⟩)), (34, .bool (!decide (((F_WidthOf pp0 pp1).2) = ((F_s_WidthOf pp0 pp1).2))))]) ⟨rfl, rfl, rfl, trivial⟩
     have hS148 := (St.pick (Γ' := [.own 2 1 b77 ((pp1).length) c78 pp1, .blk b80 #[.int .i64 pp0, .slice b77 ((pp1).length) c78] 54, .own 2 1 b49 ((pp1).length) c50 pp1, .rd 1 pp1A pp1.length pp1C pp1, .blk b2 #[.int .i64 pp0, .slice pp1A pp1.length pp1C] 51]) hS99 [1, 0, 2, 4, 3] (by decide) rfl)
     exact ⟨(by rw [hb120]; exact hE147), hS148⟩
   ·
    rintro a149 w150 ⟨hE151, hS152⟩; clear hE111 hS99
    refine c_cond hE151 rfl (fun ht154 => ?_) (fun ht154 => ?_)
    ·
     have hE155 := hE151; rw [ht154] at hE155; clear hE151
     refine c_seq ?_
     refine c_reg ?_
     refine q_step (v := .bool false) hE155 (y_assign rfl) rfl rfl rfl ?_; intro a156 hE157; clear hE155
     refine c_nil ?_
     have hE158 := hE157.sub (L' := [(2, .bool false)]) ⟨rfl, trivial⟩; clear hE157
     refine p_tn ?_
     refine wp_ret ?_
     refine p_tr ?_
     have hF : F_l_FnExactWidthOf pp0 pp1 = false := by unfold F_l_FnExactWidthOf; rw [ht154, ht32]; first | done | rfl
     refine c_ret1 hE158 rfl rfl ?_
     exact ⟨(by rw [hF]; first | done | (dsimp only; done) | rfl), hS152.ext⟩
    ·
     obtain ⟨ht159, ht160⟩ := bor_f ht154
     have ht161 := bn_f ht159
     have hp162 := of_decide_eq_true ht161
     have ht163 := bn_f ht160
     have hp164 := of_decide_eq_true ht163
     have hE165 := hE151; rw [ht154] at hE165; clear hE151
     refine wp_skip ?_
     refine p_tn ?_
     refine c_seq ?_
     refine c_seq ?_
     refine d_start (fun w w' => (fun w' => w'.heap[b80]? = some (.cells #[.int .i64 pp0, .slice b77 ((pp1).length) c78] 54 (0, 0)) ∧ w'.heap[b2]? = some (.cells #[.int .i64 pp0, .slice pp1A pp1.length pp1C] 51 (0, 0)) ∧ True) w → (fun w' => w'.heap[b80]? = some (.cells #[.int .i64 pp0, .slice b77 ((pp1).length) c78] 54 (0, 0)) ∧ w'.heap[b2]? = some (.cells #[.int .i64 pp0, .slice pp1A pp1.length pp1C] 51 (0, 0)) ∧ True) w') [0, 1] 5 (by kernel_rfl) rfl ?_
     intro w166 he167; have hS168 := St.go hS152 he167; clear hS152
     refine d_take (fun _ h => h) (fun _ _ h k => h k) (v := .agg #[.int .i64 pp0, .slice b77 ((pp1).length) c78]) 0 rfl hE165 (S := fun w' => w'.heap[b80]? = some (.cells #[.int .i64 pp0, .slice b77 ((pp1).length) c78] 54 (0, 0)) ∧ w'.heap[b2]? = some (.cells #[.int .i64 pp0, .slice pp1A pp1.length pp1C] 51 (0, 0)) ∧ True) ⟨(St.row (i := 1) hS168 rfl _ (Ext.refl _)), (St.row (i := 4) hS168 rfl _ (Ext.refl _)), trivial⟩ (y_loadS Try.underlying54 rfl (by kernel_rfl) rfl (fun _ h => h.1)) rfl rfl (by kernel_rfl) (by kernel_rfl) (by kernel_rfl) (by kernel_rfl) rfl rfl (fun _ _ _ h => h) ?_; intro a169 hE170; clear hE165
     refine d_take (fun _ h => h) (fun _ _ h k => h k) (v := .agg #[.int .i64 pp0, .slice pp1A pp1.length pp1C]) 1 rfl hE170 (S := fun w' => w'.heap[b80]? = some (.cells #[.int .i64 pp0, .slice b77 ((pp1).length) c78] 54 (0, 0)) ∧ w'.heap[b2]? = some (.cells #[.int .i64 pp0, .slice pp1A pp1.length pp1C] 51 (0, 0)) ∧ True) ⟨(St.row (i := 1) hS168 rfl _ (Ext.refl _)), (St.row (i := 4) hS168 rfl _ (Ext.refl _)), trivial⟩ (y_loadS Try.underlying51 rfl (by kernel_rfl) rfl (fun _ h => h.2.1)) rfl rfl (by kernel_rfl) (by kernel_rfl) (by kernel_rfl) (by kernel_rfl) rfl rfl (fun _ _ _ h => h) ?_; intro a171 hE172; clear hE170
     refine d_only 2 (by kernel_rfl) rfl hE172 rfl (l_call (f := 36) (argv := [.agg #[.int .i64 pp0, .slice pp1A pp1.length pp1C]]) hE172 (fun _ => cf_l_toPoset _ _) rfl rfl (d_l_toPoset pp0 pp1A pp1.length pp1C pp1 w166 (St.rdR (i := 3) hS168 rfl) (by first | omega | (simp only [marked_len]; omega) | (simp only [marked_len] at *; omega))) ?_)
     rintro _ w174 ⟨b179, c180, rfl, ho181, he178⟩ a175 hE176; clear hE172
     have hS177 := St.own hS168 he178 ho181; clear hS168
     refine ⟨fun _ _ => ⟨(St.row (i := 2) hS177 rfl _ (Ext.refl _)), (St.row (i := 5) hS177 rfl _ (Ext.refl _)), trivial⟩, ?_⟩
     refine d_only 3 (by kernel_rfl) rfl hE176 rfl (l_call (f := 38) (argv := [.agg #[.int .i64 pp0, .slice b77 ((pp1).length) c78], .agg #[.int .i64 pp0, .slice b179 ((pp1).length) c180]]) hE176 (fun _ => cf_l_eqPoset _ _) rfl rfl (d_l_eqPoset pp0 b77 ((pp1).length) c78 pp1 pp0 b179 ((pp1).length) c180 pp1 w174 (St.rdO (i := 1) hS177 rfl) (St.rdO (i := 0) hS177 rfl)) ?_)
     rintro _ w183 ⟨rfl, he187⟩ a184 hE185; clear hE176
     have hS186 := St.go hS177 he187; clear hS177
     refine ⟨fun h => Bool.noConfusion (h.symm.trans (show exm _ _ _ = true by kernel_rfl)), ?_⟩
     refine d_pure (fun _ h => h) (v := .bool (!(decide ((pp0, pp1) = (pp0, pp1))))) 4 rfl hE185 (y_not rfl) rfl (by kernel_rfl) (by kernel_rfl) (by kernel_rfl) rfl rfl (fun _ _ _ h => h) ?_; intro a188 hE189; clear hE185
     refine d_done (by kernel_rfl) ?_
     have hE190 := hE189.sub (L' := [(39, .bool (!(decide ((pp0, pp1) = (pp0, pp1)))))]) ⟨rfl, trivial⟩; clear hE189
     refine p_tn ?_
     refine c_cond hE190 rfl (fun ht191 => ?_) (fun ht191 => ?_)
     ·
      have ht192 := bn_t ht191
      have hp193 := of_decide_eq_false ht192
      have hE194 := hE190; rw [ht191] at hE194; clear hE190
      refine c_seq ?_
      refine c_reg ?_
      refine q_step (v := .bool false) hE194 (y_assign rfl) rfl rfl rfl ?_; intro a195 hE196; clear hE194
      refine c_nil ?_
      have hE197 := hE196.sub (L' := [(2, .bool false)]) ⟨rfl, trivial⟩; clear hE196
      refine p_tn ?_
      refine wp_ret ?_
      refine p_tr ?_
      have hF : F_l_FnExactWidthOf pp0 pp1 = false := by unfold F_l_FnExactWidthOf; rw [ht191, ht154, ht32]; first | done | rfl
      refine c_ret1 hE197 rfl rfl ?_
      exact ⟨(by rw [hF]; first | done | (dsimp only; done) | rfl), hS186.ext⟩
     ·
      have ht198 := bn_f ht191
      have hp199 := of_decide_eq_true ht198
      have hE200 := hE190; rw [ht191] at hE200; clear hE190
      refine wp_skip ?_
      refine p_tn ?_
      refine c_seq ?_
      refine c_reg ?_
      refine q_step (v := .bool true) hE200 (y_assign rfl) rfl rfl rfl ?_; intro a201 hE202; clear hE200
      refine c_nil ?_
      have hE203 := hE202.sub (L' := [(2, .bool true)]) ⟨rfl, trivial⟩; clear hE202
      refine p_tn ?_
      refine wp_ret ?_
      have hF : F_l_FnExactWidthOf pp0 pp1 = true := by unfold F_l_FnExactWidthOf; rw [ht191, ht154, ht32]; first | done | rfl
      refine c_ret1 hE203 rfl rfl ?_
      exact ⟨(by rw [hF]; first | done | (dsimp only; done) | rfl), hS186.ext⟩

theorem FnExactWidthOf_true (pp0 : Int) (pp1 : List Int) : F_l_FnExactWidthOf pp0 pp1 = true := by
  unfold F_l_FnExactWidthOf
  rw [WidthOf_eq]
  simp


end Go.Proofs.Ytlbonhloeefnmaa
