/- GLXT: models and contracts, printed by wip/gen/gen.py -/
import Derived.Test.YtkilkfhjfobcdaaDoorGA
import Derived.Test.YtkilkfhjfobcdaaDoorGXT
set_option linter.unusedVariables false
set_option linter.unusedSimpArgs false
namespace Go.Proofs.YtkilkfhjfobcdaaDoor
open Go.RowKit

def F_l_FnExactFrameText (fp0 : Int) (fp1 : List Int) : Bool :=
  bif (decide ((F_l_szFrame fp0 fp1 1048576) < 0)) then true else (bif ((!(((F_FrameText fp0 fp1).1).toList == ((F_s_FrameText fp0 fp1).1).toList)) || (!decide (((F_FrameText fp0 fp1).2) = ((F_s_FrameText fp0 fp1).2)))) then false else (bif (!(decide ((fp0, fp1) = (fp0, fp1)))) then false else true))
theorem cf_l_FnExactFrameText (args : Array Value) (w : World) : (callFunc 3 args).run Tryd.prog w = .ok (.enter 3 args) w := by kernel_rfl
set_option maxRecDepth 100000 in
theorem c_l_FnExactFrameText (fp0 : Int) (fp1A : Option Addr) (fp1N fp1C : Nat) (fp1 : List Int) (w : World) (fp1R : RdS w 1 fp1A fp1N fp1C fp1) :
    Calls Tryd.prog 3 #[.agg #[.int .i64 fp0, .slice fp1A fp1N fp1C]] w (Ret fun v w' => v = .bool (F_l_FnExactFrameText fp0 fp1) ∧ Ext w w') := by
  obtain rfl : fp1N = fp1.length := fp1R.len1.symm
  have fp1Le := fp1R.le
  have hS := St.nil w
  have hS1 := St.rd0 hS rfl fp1R; clear hS
  refine enter (args := [.agg #[.int .i64 fp0, .slice fp1A fp1.length fp1C]]) Tryd.func3 rfl rfl ?_
  rw [Tryd.ntmps3]; intro a hE
  have hE := hE.sub (L' := [(0, .agg #[.int .i64 fp0, .slice fp1A fp1.length fp1C])]) ⟨rfl, trivial⟩
  refine c_seq ?_
  refine c_reg ?_
  refine l_step hE rfl (l_box (v := .agg #[.int .i64 fp0, .slice fp1A fp1.length fp1C]) (cs := #[.int .i64 fp0, .slice fp1A fp1.length fp1C]) hS1 hE rfl rfl rfl ?_)
  intro b2 w3 hS6 he7 a4 hE5; clear hS1 hE
  refine q_step (v := .bool false) hE5 (y_assign rfl) rfl rfl rfl ?_; intro a8 hE9; clear hE5
  refine c_nil ?_
  have hE10 := hE9.sub (L' := [(1, .pointer (some ⟨b2, 0, none⟩))]) ⟨rfl, trivial⟩; clear hE9
  refine p_tn ?_
  refine c_seq ?_
  refine c_reg ?_
  refine q_step (v := .int .i64 1048576) hE10 (y_assign rfl) rfl rfl rfl ?_; intro a11 hE12; clear hE10
  refine c_nil ?_
  have hE13 := hE12.sub (L' := [(1, .pointer (some ⟨b2, 0, none⟩)), (3, .int .i64 1048576)]) ⟨rfl, rfl, trivial⟩; clear hE12
  refine p_tn ?_
  refine c_seq ?_
  refine c_reg ?_
  refine q_step (v := .agg #[.int .i64 fp0, .slice fp1A fp1.length fp1C]) hE13 (y_loadS Tryd.underlying24 rfl (by kernel_rfl) rfl (St.row (i := 0) hS6 rfl)) rfl rfl rfl ?_; intro a14 hE15; clear hE13
  refine q_step (v := .int .i64 1048576) hE15 (y_move rfl) rfl rfl rfl ?_; intro a16 hE17; clear hE15
  refine l_step hE17 rfl (l_call (f := 4) (argv := [.agg #[.int .i64 fp0, .slice fp1A fp1.length fp1C], .int .i64 1048576]) hE17 (fun _ => cf_l_szFrame _ _) rfl rfl (c_l_szFrame fp0 fp1A fp1.length fp1C fp1 1048576 w3 (St.rdR (i := 1) hS6 rfl) (by first | omega | (simp only [marked_len]; omega) | (simp only [marked_len] at *; omega)) (by first | omega | (simp only [marked_len]; omega) | (simp only [marked_len] at *; omega))) ?_)
  rintro _ w19 ⟨rfl, he23⟩ a20 hE21; clear hE17
  have hS22 := St.go hS6 he23; clear hS6
  refine q_step (v := .int .i64 (F_l_szFrame fp0 fp1 1048576)) hE21 (y_assign rfl) rfl rfl rfl ?_; intro a24 hE25; clear hE21
  refine c_nil ?_
  have hE26 := hE25.sub (L' := [(1, .pointer (some ⟨b2, 0, none⟩)), (3, .int .i64 (F_l_szFrame fp0 fp1 1048576))]) ⟨rfl, rfl, trivial⟩; clear hE25
  refine p_tn ?_
  refine c_seq ?_
  refine c_seq ?_
  refine c_reg ?_
  refine q_step (v := .int .i64 (F_l_szFrame fp0 fp1 1048576)) hE26 (y_move rfl) rfl rfl rfl ?_; intro a27 hE28; clear hE26
  refine q_step (v := .bool (decide ((F_l_szFrame fp0 fp1 1048576) < 0))) hE28 (y_lss rfl rfl) rfl rfl rfl ?_; intro a29 hE30; clear hE28
  refine c_nil ?_
  have hE31 := hE30.sub (L' := [(1, .pointer (some ⟨b2, 0, none⟩)), (13, .bool (decide ((F_l_szFrame fp0 fp1 1048576) < 0)))]) ⟨rfl, rfl, trivial⟩; clear hE30
  refine p_tn ?_
  refine c_cond hE31 rfl (fun ht32 => ?_) (fun ht32 => ?_)
  ·
   have hp33 := of_decide_eq_true ht32
   have hE34 := hE31; rw [ht32] at hE34; clear hE31
   refine c_seq ?_
   refine c_reg ?_
   refine q_step (v := .bool true) hE34 (y_assign rfl) rfl rfl rfl ?_; intro a35 hE36; clear hE34
   refine c_nil ?_
   have hE37 := hE36.sub (L' := [(2, .bool true)]) ⟨rfl, trivial⟩; clear hE36
   refine p_tn ?_
   refine wp_ret ?_
   refine p_tr ?_
   have hF : F_l_FnExactFrameText fp0 fp1 = true := by unfold F_l_FnExactFrameText; rw [ht32]; first | done | rfl
   refine c_ret1 hE37 rfl rfl ?_
   exact ⟨(by rw [hF]; first | done | (dsimp only; done) | rfl), hS22.ext⟩
  ·
   have hp38 := of_decide_eq_false ht32
   have hq39 := szFrame_bound hp38
   have hE40 := hE31; rw [ht32] at hE40; clear hE31
   refine wp_skip ?_
   refine p_tn ?_
   refine c_seq ?_
   refine c_reg ?_
   refine q_step (v := .agg #[.int .i64 fp0, .slice fp1A fp1.length fp1C]) hE40 (y_loadS Tryd.underlying24 rfl (by kernel_rfl) rfl (St.row (i := 0) hS22 rfl)) rfl rfl rfl ?_; intro a41 hE42; clear hE40
   refine l_step hE42 rfl (l_call (f := 6) (argv := [.agg #[.int .i64 fp0, .slice fp1A fp1.length fp1C]]) hE42 (fun _ => cf_l_toFrame _ _) rfl rfl (d_l_toFrame fp0 fp1A fp1.length fp1C fp1 w19 (St.rdR (i := 1) hS22 rfl) (by first | omega | (simp only [marked_len]; omega) | (simp only [marked_len] at *; omega))) ?_)
   rintro _ w44 ⟨b49, c50, rfl, ho51, he48⟩ a45 hE46; clear hE42
   have hS47 := St.own hS22 he48 ho51; clear hS22
   refine l_step hE46 rfl (l_call (f := 5) (argv := [.agg #[.int .i64 fp0, .slice b49 ((fp1).length) c50]]) hE46 (fun _ => cf_s_FrameText _ _) rfl rfl (c_s_FrameText fp0 b49 ((fp1).length) c50 fp1 w44 (St.rdO (i := 0) hS47 rfl)) ?_)
   rintro _ w53 ⟨rfl, he57⟩ a54 hE55; clear hE46
   have hS56 := St.go hS47 he57; clear hS47
   refine q_step (v := .tuple #[.string ((F_s_FrameText fp0 fp1).1), .int .i64 ((F_s_FrameText fp0 fp1).2)]) hE55 (y_move rfl) rfl rfl rfl ?_; intro a58 hE59; clear hE55
   refine q_step (v := .string ((F_s_FrameText fp0 fp1).1)) hE59 (y_extract rfl rfl) rfl rfl rfl ?_; intro a60 hE61; clear hE59
   refine q_step (v := .int .i64 ((F_s_FrameText fp0 fp1).2)) hE61 (y_extract rfl rfl) rfl rfl rfl ?_; intro a62 hE63; clear hE61
   refine q_step (v := .string ((F_s_FrameText fp0 fp1).1)) hE63 (y_assign rfl) rfl rfl rfl ?_; intro a64 hE65; clear hE63
   refine q_step (v := .int .i64 ((F_s_FrameText fp0 fp1).2)) hE65 (y_assign rfl) rfl rfl rfl ?_; intro a66 hE67; clear hE65
   refine c_nil ?_
   have hE68 := hE67.sub (L' := [(1, .pointer (some ⟨b2, 0, none⟩)), (4, .string ((F_s_FrameText fp0 fp1).1)), (5, .int .i64 ((F_s_FrameText fp0 fp1).2))]) ⟨rfl, rfl, rfl, trivial⟩; clear hE67
   refine p_tn ?_
   refine c_seq ?_
   refine c_reg ?_
   refine q_step (v := .agg #[.int .i64 fp0, .slice fp1A fp1.length fp1C]) hE68 (y_loadS Tryd.underlying24 rfl (by kernel_rfl) rfl (St.row (i := 1) hS56 rfl)) rfl rfl rfl ?_; intro a69 hE70; clear hE68
   refine l_step hE70 rfl (l_call (f := 6) (argv := [.agg #[.int .i64 fp0, .slice fp1A fp1.length fp1C]]) hE70 (fun _ => cf_l_toFrame _ _) rfl rfl (d_l_toFrame fp0 fp1A fp1.length fp1C fp1 w53 (St.rdR (i := 2) hS56 rfl) (by first | omega | (simp only [marked_len]; omega) | (simp only [marked_len] at *; omega))) ?_)
   rintro _ w72 ⟨b77, c78, rfl, ho79, he76⟩ a73 hE74; clear hE70
   have hS75 := St.own hS56 he76 ho79; clear hS56
   refine l_step hE74 rfl (l_alloc (z := .agg #[.int .i64 0, .slice none 0 0]) (cs := #[.int .i64 0, .slice none 0 0]) hS75 hE74 (fun _ => by kernel_rfl) rfl rfl ?_)
   intro b80 w81 hS84 he85 a82 hE83; clear hS75 hE74
   refine l_step hE83 rfl (l_storeS (k := 0) (cs' := #[.int .i64 fp0, .slice b77 ((fp1).length) c78]) hS84 hE83 (by kernel_rfl) rfl rfl (by kernel_rfl) rfl rfl ?_)
   intro w87 hS90 a88 hE89; clear hS84 hE83
   refine c_nil ?_
   have hE92 := hE89.sub (L' := [(1, .pointer (some ⟨b2, 0, none⟩)), (4, .string ((F_s_FrameText fp0 fp1).1)), (5, .int .i64 ((F_s_FrameText fp0 fp1).2)), (6, .pointer (some ⟨b80, 0, none⟩))]) ⟨rfl, rfl, rfl, rfl, trivial⟩; clear hE89
   refine p_tn ?_
   refine c_seq ?_
   refine c_reg ?_
   refine q_step (v := .agg #[.int .i64 fp0, .slice b77 ((fp1).length) c78]) hE92 (y_loadS Tryd.underlying28 rfl (by kernel_rfl) rfl (St.row (i := 0) hS90 rfl)) rfl rfl rfl ?_; intro a93 hE94; clear hE92
   refine l_step hE94 rfl (l_call (f := 7) (argv := [.agg #[.int .i64 fp0, .slice b77 ((fp1).length) c78]]) hE94 (fun _ => cf_FrameText _ _) rfl rfl (c_FrameText fp0 b77 ((fp1).length) c78 fp1 w87 (St.rdO (i := 1) hS90 rfl)) ?_)
   rintro _ w96 ⟨rfl, he100⟩ a97 hE98; clear hE94
   have hS99 := St.go hS90 he100; clear hS90
   refine q_step (v := .tuple #[.string ((F_FrameText fp0 fp1).1), .int .i64 ((F_FrameText fp0 fp1).2)]) hE98 (y_move rfl) rfl rfl rfl ?_; intro a101 hE102; clear hE98
   refine q_step (v := .string ((F_FrameText fp0 fp1).1)) hE102 (y_extract rfl rfl) rfl rfl rfl ?_; intro a103 hE104; clear hE102
   refine q_step (v := .int .i64 ((F_FrameText fp0 fp1).2)) hE104 (y_extract rfl rfl) rfl rfl rfl ?_; intro a105 hE106; clear hE104
   refine q_step (v := .string ((F_FrameText fp0 fp1).1)) hE106 (y_assign rfl) rfl rfl rfl ?_; intro a107 hE108; clear hE106
   refine q_step (v := .int .i64 ((F_FrameText fp0 fp1).2)) hE108 (y_assign rfl) rfl rfl rfl ?_; intro a109 hE110; clear hE108
   refine c_nil ?_
   have hE111 := hE110.sub (L' := [(1, .pointer (some ⟨b2, 0, none⟩)), (4, .string ((F_s_FrameText fp0 fp1).1)), (5, .int .i64 ((F_s_FrameText fp0 fp1).2)), (6, .pointer (some ⟨b80, 0, none⟩)), (7, .string ((F_FrameText fp0 fp1).1)), (8, .int .i64 ((F_FrameText fp0 fp1).2))]) ⟨rfl, rfl, rfl, rfl, rfl, rfl, trivial⟩; clear hE110
   refine p_tn ?_
   refine c_seq ?_
   refine c_cut (fun a' w' => E a' 40 [(1, .pointer (some ⟨b2, 0, none⟩)), (6, .pointer (some ⟨b80, 0, none⟩)), (34, .bool ((!(((F_FrameText fp0 fp1).1).toList == ((F_s_FrameText fp0 fp1).1).toList)) || (!decide (((F_FrameText fp0 fp1).2) = ((F_s_FrameText fp0 fp1).2)))))] ∧ St w w' [.own 2 1 b77 ((fp1).length) c78 fp1, .blk b80 #[.int .i64 fp0, .slice b77 ((fp1).length) c78] 28, .own 2 1 b49 ((fp1).length) c50 fp1, .rd 1 fp1A fp1.length fp1C fp1, .blk b2 #[.int .i64 fp0, .slice fp1A fp1.length fp1C] 24]) ?_ ?_
   ·
    refine c_reg ?_
    refine q_step (v := .string ((F_FrameText fp0 fp1).1)) hE111 (y_move rfl) rfl rfl rfl ?_; intro a112 hE113; clear hE111
    refine q_step (v := .string ((F_s_FrameText fp0 fp1).1)) hE113 (y_move rfl) rfl rfl rfl ?_; intro a114 hE115; clear hE113
    refine q_step (v := .bool (!(((F_FrameText fp0 fp1).1).toList == ((F_s_FrameText fp0 fp1).1).toList))) hE115 (y_neqS (by kernel_rfl) rfl rfl) rfl rfl rfl ?_; intro a116 hE117; clear hE115
    refine q_step (v := .bool (!(((F_FrameText fp0 fp1).1).toList == ((F_s_FrameText fp0 fp1).1).toList))) hE117 (y_move rfl) rfl rfl rfl ?_; intro a118 hE119; clear hE117
    rcases Bool.eq_false_or_eq_true (!(((F_FrameText fp0 fp1).1).toList == ((F_s_FrameText fp0 fp1).1).toList)) with hb120 | hb120
    ·
     have hE121 := hE119; (try rw [hb120] at hE121); clear hE119
     have ht122 := bn_t hb120
     refine q_skip hE121 rfl rfl rfl ?_; intro a123 hE124; clear hE121
     refine q_skip hE124 rfl rfl rfl ?_; intro a125 hE126; clear hE124
     refine q_skip hE126 rfl rfl rfl ?_; intro a127 hE128; clear hE126
     refine q_step (v := .bool true) hE128 (y_pick (b := true) rfl rfl) rfl rfl rfl ?_; intro a129 hE130; clear hE128
     refine c_nil ?_
     have hE131 := hE130.sub (L' := [(1, .pointer (some ⟨b2, 0, none⟩)), (6, .pointer (some ⟨b80, 0, none⟩)), (34, .bool true)]) ⟨rfl, rfl, rfl, trivial⟩; clear hE130
     refine p_tn ?_
     have hE132 := hE131.sub (L' := [(1, .pointer (some ⟨b2, 0, none⟩)), (6, .pointer (some ⟨b80, 0, none⟩)), (34, .bool true)]) ⟨rfl, rfl, rfl, trivial⟩
     have hS133 := (St.pick (Γ' := [.own 2 1 b77 ((fp1).length) c78 fp1, .blk b80 #[.int .i64 fp0, .slice b77 ((fp1).length) c78] 28, .own 2 1 b49 ((fp1).length) c50 fp1, .rd 1 fp1A fp1.length fp1C fp1, .blk b2 #[.int .i64 fp0, .slice fp1A fp1.length fp1C] 24]) hS99 [1, 0, 2, 4, 3] (by decide) rfl)
     exact ⟨(by rw [hb120]; exact hE132), hS133⟩
    ·
     have hE134 := hE119; (try rw [hb120] at hE134); clear hE119
     have ht135 := bn_f hb120
     refine q_step (v := .int .i64 ((F_FrameText fp0 fp1).2)) hE134 (y_move rfl) rfl rfl rfl ?_; intro a136 hE137; clear hE134
     refine q_step (v := .int .i64 ((F_s_FrameText fp0 fp1).2)) hE137 (y_move rfl) rfl rfl rfl ?_; intro a138 hE139; clear hE137
     refine q_step (v := .bool (!decide (((F_FrameText fp0 fp1).2) = ((F_s_FrameText fp0 fp1).2)))) hE139 (y_neq rfl rfl) rfl rfl rfl ?_; intro a140 hE141; clear hE139
     refine q_step (v := .bool (!decide (((F_FrameText fp0 fp1).2) = ((F_s_FrameText fp0 fp1).2)))) hE141 (y_pick (b := false) rfl rfl) rfl rfl rfl ?_; intro a142 hE143; clear hE141
     refine c_nil ?_
     have hE144 := hE143.sub (L' := [(1, .pointer (some ⟨b2, 0, none⟩)), (6, .pointer (some ⟨b80, 0, none⟩)), (34, .bool (!decide (((F_FrameText fp0 fp1).2) = ((F_s_FrameText fp0 fp1).2))))]) ⟨rfl, rfl, rfl, trivial⟩; clear hE143
     refine p_tn ?_
     have hE145 := hE144.sub (L' := [(1, .pointer (some ⟨b2, 0, none⟩)), (6, .pointer (some ⟨b80, 0, none⟩)), (34, .bool (!decide (((F_FrameText fp0 fp1).2) = ((F_s_FrameText fp0 fp1).2))))]) ⟨rfl, rfl, rfl, trivial⟩
     have hS146 := (St.pick (Γ' := [.own 2 1 b77 ((fp1).length) c78 fp1, .blk b80 #[.int .i64 fp0, .slice b77 ((fp1).length) c78] 28, .own 2 1 b49 ((fp1).length) c50 fp1, .rd 1 fp1A fp1.length fp1C fp1, .blk b2 #[.int .i64 fp0, .slice fp1A fp1.length fp1C] 24]) hS99 [1, 0, 2, 4, 3] (by decide) rfl)
     exact ⟨(by rw [hb120]; exact hE145), hS146⟩
   ·
    rintro a147 w148 ⟨hE149, hS150⟩; clear hE111 hS99
    refine c_cond hE149 rfl (fun ht152 => ?_) (fun ht152 => ?_)
    ·
     have hE153 := hE149; rw [ht152] at hE153; clear hE149
     refine c_seq ?_
     refine c_reg ?_
     refine q_step (v := .bool false) hE153 (y_assign rfl) rfl rfl rfl ?_; intro a154 hE155; clear hE153
     refine c_nil ?_
     have hE156 := hE155.sub (L' := [(2, .bool false)]) ⟨rfl, trivial⟩; clear hE155
     refine p_tn ?_
     refine wp_ret ?_
     refine p_tr ?_
     have hF : F_l_FnExactFrameText fp0 fp1 = false := by unfold F_l_FnExactFrameText; rw [ht152, ht32]; first | done | rfl
     refine c_ret1 hE156 rfl rfl ?_
     exact ⟨(by rw [hF]; first | done | (dsimp only; done) | rfl), hS150.ext⟩
    ·
     obtain ⟨ht157, ht158⟩ := bor_f ht152
     have ht159 := bn_f ht157
     have ht160 := bn_f ht158
     have hp161 := of_decide_eq_true ht160
     have hE162 := hE149; rw [ht152] at hE162; clear hE149
     refine wp_skip ?_
     refine p_tn ?_
     refine c_seq ?_
     refine c_seq ?_
     refine d_start (fun w w' => (fun w' => w'.heap[b80]? = some (.cells #[.int .i64 fp0, .slice b77 ((fp1).length) c78] 28 (0, 0)) ∧ w'.heap[b2]? = some (.cells #[.int .i64 fp0, .slice fp1A fp1.length fp1C] 24 (0, 0)) ∧ True) w → (fun w' => w'.heap[b80]? = some (.cells #[.int .i64 fp0, .slice b77 ((fp1).length) c78] 28 (0, 0)) ∧ w'.heap[b2]? = some (.cells #[.int .i64 fp0, .slice fp1A fp1.length fp1C] 24 (0, 0)) ∧ True) w') [0, 1] 5 (by kernel_rfl) rfl ?_
     intro w163 he164; have hS165 := St.go hS150 he164; clear hS150
     refine d_take (fun _ h => h) (fun _ _ h k => h k) (v := .agg #[.int .i64 fp0, .slice b77 ((fp1).length) c78]) 0 rfl hE162 (S := fun w' => w'.heap[b80]? = some (.cells #[.int .i64 fp0, .slice b77 ((fp1).length) c78] 28 (0, 0)) ∧ w'.heap[b2]? = some (.cells #[.int .i64 fp0, .slice fp1A fp1.length fp1C] 24 (0, 0)) ∧ True) ⟨(St.row (i := 1) hS165 rfl _ (Ext.refl _)), (St.row (i := 4) hS165 rfl _ (Ext.refl _)), trivial⟩ (y_loadS Tryd.underlying28 rfl (by kernel_rfl) rfl (fun _ h => h.1)) rfl rfl (by kernel_rfl) (by kernel_rfl) (by kernel_rfl) (by kernel_rfl) rfl rfl (fun _ _ _ h => h) ?_; intro a166 hE167; clear hE162
     refine d_take (fun _ h => h) (fun _ _ h k => h k) (v := .agg #[.int .i64 fp0, .slice fp1A fp1.length fp1C]) 1 rfl hE167 (S := fun w' => w'.heap[b80]? = some (.cells #[.int .i64 fp0, .slice b77 ((fp1).length) c78] 28 (0, 0)) ∧ w'.heap[b2]? = some (.cells #[.int .i64 fp0, .slice fp1A fp1.length fp1C] 24 (0, 0)) ∧ True) ⟨(St.row (i := 1) hS165 rfl _ (Ext.refl _)), (St.row (i := 4) hS165 rfl _ (Ext.refl _)), trivial⟩ (y_loadS Tryd.underlying24 rfl (by kernel_rfl) rfl (fun _ h => h.2.1)) rfl rfl (by kernel_rfl) (by kernel_rfl) (by kernel_rfl) (by kernel_rfl) rfl rfl (fun _ _ _ h => h) ?_; intro a168 hE169; clear hE167
     refine d_only 2 (by kernel_rfl) rfl hE169 rfl (l_call (f := 6) (argv := [.agg #[.int .i64 fp0, .slice fp1A fp1.length fp1C]]) hE169 (fun _ => cf_l_toFrame _ _) rfl rfl (d_l_toFrame fp0 fp1A fp1.length fp1C fp1 w163 (St.rdR (i := 3) hS165 rfl) (by first | omega | (simp only [marked_len]; omega) | (simp only [marked_len] at *; omega))) ?_)
     rintro _ w171 ⟨b176, c177, rfl, ho178, he175⟩ a172 hE173; clear hE169
     have hS174 := St.own hS165 he175 ho178; clear hS165
     refine ⟨fun _ _ => ⟨(St.row (i := 2) hS174 rfl _ (Ext.refl _)), (St.row (i := 5) hS174 rfl _ (Ext.refl _)), trivial⟩, ?_⟩
     refine d_only 3 (by kernel_rfl) rfl hE173 rfl (l_call (f := 8) (argv := [.agg #[.int .i64 fp0, .slice b77 ((fp1).length) c78], .agg #[.int .i64 fp0, .slice b176 ((fp1).length) c177]]) hE173 (fun _ => cf_l_eqFrame _ _) rfl rfl (d_l_eqFrame fp0 b77 ((fp1).length) c78 fp1 fp0 b176 ((fp1).length) c177 fp1 w171 (St.rdO (i := 1) hS174 rfl) (St.rdO (i := 0) hS174 rfl)) ?_)
     rintro _ w180 ⟨rfl, he184⟩ a181 hE182; clear hE173
     have hS183 := St.go hS174 he184; clear hS174
     refine ⟨fun h => Bool.noConfusion (h.symm.trans (show exm _ _ _ = true by kernel_rfl)), ?_⟩
     refine d_pure (fun _ h => h) (v := .bool (!(decide ((fp0, fp1) = (fp0, fp1))))) 4 rfl hE182 (y_not rfl) rfl (by kernel_rfl) (by kernel_rfl) (by kernel_rfl) rfl rfl (fun _ _ _ h => h) ?_; intro a185 hE186; clear hE182
     refine d_done (by kernel_rfl) ?_
     have hE187 := hE186.sub (L' := [(39, .bool (!(decide ((fp0, fp1) = (fp0, fp1)))))]) ⟨rfl, trivial⟩; clear hE186
     refine p_tn ?_
     refine c_cond hE187 rfl (fun ht188 => ?_) (fun ht188 => ?_)
     ·
      have ht189 := bn_t ht188
      have hp190 := of_decide_eq_false ht189
      have hE191 := hE187; rw [ht188] at hE191; clear hE187
      refine c_seq ?_
      refine c_reg ?_
      refine q_step (v := .bool false) hE191 (y_assign rfl) rfl rfl rfl ?_; intro a192 hE193; clear hE191
      refine c_nil ?_
      have hE194 := hE193.sub (L' := [(2, .bool false)]) ⟨rfl, trivial⟩; clear hE193
      refine p_tn ?_
      refine wp_ret ?_
      refine p_tr ?_
      have hF : F_l_FnExactFrameText fp0 fp1 = false := by unfold F_l_FnExactFrameText; rw [ht188, ht152, ht32]; first | done | rfl
      refine c_ret1 hE194 rfl rfl ?_
      exact ⟨(by rw [hF]; first | done | (dsimp only; done) | rfl), hS183.ext⟩
     ·
      have ht195 := bn_f ht188
      have hp196 := of_decide_eq_true ht195
      have hE197 := hE187; rw [ht188] at hE197; clear hE187
      refine wp_skip ?_
      refine p_tn ?_
      refine c_seq ?_
      refine c_reg ?_
      refine q_step (v := .bool true) hE197 (y_assign rfl) rfl rfl rfl ?_; intro a198 hE199; clear hE197
      refine c_nil ?_
      have hE200 := hE199.sub (L' := [(2, .bool true)]) ⟨rfl, trivial⟩; clear hE199
      refine p_tn ?_
      refine wp_ret ?_
      have hF : F_l_FnExactFrameText fp0 fp1 = true := by unfold F_l_FnExactFrameText; rw [ht188, ht152, ht32]; first | done | rfl
      refine c_ret1 hE200 rfl rfl ?_
      exact ⟨(by rw [hF]; first | done | (dsimp only; done) | rfl), hS183.ext⟩

theorem FnExactFrameText_true (fp0 : Int) (fp1 : List Int) : F_l_FnExactFrameText fp0 fp1 = true := by
  unfold F_l_FnExactFrameText
  rw [FrameText_eq]
  simp


end Go.Proofs.YtkilkfhjfobcdaaDoor
