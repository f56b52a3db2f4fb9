/- GLCF: models and contracts, printed by wip/gen/gen.py -/
import Derived.Test.YtejfjcjdilbkdaaGA
import Derived.Test.YtejfjcjdilbkdaaGCF2
set_option linter.unusedVariables false
set_option linter.unusedSimpArgs false
namespace Go.Proofs.Ytejfjcjdilbkdaa
open Go.RowKit

def F_l_FnExactCloseFrame (fp0 : Int) (fp1 : List Int) (flag : Int) : Bool :=
  bif (decide ((F_l_szFrame fp0 fp1 1048576) < 0)) then true else (bif ((!(decide (((((F_CloseFrame fp0 fp1 flag).1).1), (((F_CloseFrame fp0 fp1 flag).1).2)) = ((((F_s_CloseFrame fp0 fp1 flag).1).1), (((F_s_CloseFrame fp0 fp1 flag).1).2))))) || (!decide (((F_CloseFrame fp0 fp1 flag).2) = ((F_s_CloseFrame fp0 fp1 flag).2)))) then false else (bif (!(decide ((fp0, fp1) = (fp0, fp1)))) then false else (bif ((decide ((1 + (fp1.length : Int)) < 0)) || ((!(decide (((((F_CloseFrame fp0 fp1 flag).1).1), (((F_CloseFrame fp0 fp1 flag).1).2)) = ((((F_s_CloseFrame fp0 fp1 flag).1).1), (((F_s_CloseFrame fp0 fp1 flag).1).2))))) || (!decide (((F_CloseFrame fp0 fp1 flag).2) = ((F_s_CloseFrame fp0 fp1 flag).2))))) then false else (bif (decide ((F_l_heldFrame (((F_CloseFrame fp0 fp1 flag).1).1) (marked (((F_CloseFrame fp0 fp1 flag).1).2).length 1) 1) < 0)) then false else (bif (!decide ((F_l_heldFrame (((F_CloseFrame fp0 fp1 flag).1).1) (marked (((F_CloseFrame fp0 fp1 flag).1).2).length 1) 1) = (1 + ((((F_CloseFrame fp0 fp1 flag).1).2).length : Int)))) then false else true)))))
theorem cf_l_FnExactCloseFrame (args : Array Value) (w : World) : (callFunc 9 args).run Try.prog w = .ok (.enter 9 args) w := by kernel_rfl
set_option maxRecDepth 100000 in
theorem c_l_FnExactCloseFrame (fp0 : Int) (fp1A : Option Addr) (fp1N fp1C : Nat) (fp1 : List Int) (flag : Int) (w : World) (fp1R : RdS w 1 fp1A fp1N fp1C fp1) :
    Calls Try.prog 9 #[.agg #[.int .i64 fp0, .slice fp1A fp1N fp1C], .int .i64 flag] w (Ret fun v w' => v = .bool (F_l_FnExactCloseFrame fp0 fp1 flag) ∧ Ext w w') := by
  obtain rfl : fp1N = fp1.length := fp1R.len1.symm
  have fp1Le := fp1R.le
  have hS := St.nil w
  have hS1 := St.rd0 hS rfl fp1R; clear hS
  refine enter (args := [.agg #[.int .i64 fp0, .slice fp1A fp1.length fp1C], .int .i64 flag]) Try.func9 rfl rfl ?_
  rw [Try.ntmps9]; intro a hE
  have hE := hE.sub (L' := [(0, .agg #[.int .i64 fp0, .slice fp1A fp1.length fp1C]), (1, .int .i64 flag)]) ⟨rfl, rfl, trivial⟩
  refine c_seq ?_
  refine c_reg ?_
  refine l_step hE rfl (l_box (v := .agg #[.int .i64 fp0, .slice fp1A fp1.length fp1C]) (cs := #[.int .i64 fp0, .slice fp1A fp1.length fp1C]) hS1 hE rfl rfl rfl ?_)
  intro b2 w3 hS6 he7 a4 hE5; clear hS1 hE
  refine q_step (v := .bool false) hE5 (y_assign rfl) rfl rfl rfl ?_; intro a8 hE9; clear hE5
  refine c_nil ?_
  have hE10 := hE9.sub (L' := [(1, .int .i64 flag), (2, .pointer (some ⟨b2, 0, none⟩))]) ⟨rfl, rfl, trivial⟩; clear hE9
  refine p_tn ?_
  refine c_seq ?_
  refine c_reg ?_
  refine q_step (v := .int .i64 1048576) hE10 (y_assign rfl) rfl rfl rfl ?_; intro a11 hE12; clear hE10
  refine c_nil ?_
  have hE13 := hE12.sub (L' := [(1, .int .i64 flag), (2, .pointer (some ⟨b2, 0, none⟩)), (5, .int .i64 1048576)]) ⟨rfl, rfl, rfl, trivial⟩; clear hE12
  refine p_tn ?_
  refine c_seq ?_
  refine c_reg ?_
  refine q_step (v := .agg #[.int .i64 fp0, .slice fp1A fp1.length fp1C]) hE13 (y_loadS Try.underlying24 rfl (by kernel_rfl) rfl (St.row (i := 0) hS6 rfl)) rfl rfl rfl ?_; intro a14 hE15; clear hE13
  refine q_step (v := .int .i64 1048576) hE15 (y_move rfl) rfl rfl rfl ?_; intro a16 hE17; clear hE15
  refine l_step hE17 rfl (l_call (f := 15) (argv := [.agg #[.int .i64 fp0, .slice fp1A fp1.length fp1C], .int .i64 1048576]) hE17 (fun _ => cf_l_szFrame _ _) rfl rfl (c_l_szFrame fp0 fp1A fp1.length fp1C fp1 1048576 w3 (St.rdR (i := 1) hS6 rfl) (by first | omega | (simp only [marked_len]; omega)) (by first | omega | (simp only [marked_len]; omega))) ?_)
  rintro _ w19 ⟨rfl, he23⟩ a20 hE21; clear hE17
  have hS22 := St.go hS6 he23; clear hS6
  refine q_step (v := .int .i64 (F_l_szFrame fp0 fp1 1048576)) hE21 (y_assign rfl) rfl rfl rfl ?_; intro a24 hE25; clear hE21
  refine c_nil ?_
  have hE26 := hE25.sub (L' := [(1, .int .i64 flag), (2, .pointer (some ⟨b2, 0, none⟩)), (5, .int .i64 (F_l_szFrame fp0 fp1 1048576))]) ⟨rfl, rfl, rfl, trivial⟩; clear hE25
  refine p_tn ?_
  refine c_seq ?_
  refine c_seq ?_
  refine c_reg ?_
  refine q_step (v := .int .i64 (F_l_szFrame fp0 fp1 1048576)) hE26 (y_move rfl) rfl rfl rfl ?_; intro a27 hE28; clear hE26
  refine q_step (v := .bool (decide ((F_l_szFrame fp0 fp1 1048576) < 0))) hE28 (y_lss rfl rfl) rfl rfl rfl ?_; intro a29 hE30; clear hE28
  refine c_nil ?_
  have hE31 := hE30.sub (L' := [(1, .int .i64 flag), (2, .pointer (some ⟨b2, 0, none⟩)), (20, .bool (decide ((F_l_szFrame fp0 fp1 1048576) < 0)))]) ⟨rfl, rfl, rfl, trivial⟩; clear hE30
  refine p_tn ?_
  refine c_cond hE31 rfl (fun ht32 => ?_) (fun ht32 => ?_)
  ·
    have hp33 := of_decide_eq_true ht32
    have hE34 := hE31; rw [ht32] at hE34; clear hE31
    refine c_seq ?_
    refine c_reg ?_
    refine q_step (v := .bool true) hE34 (y_assign rfl) rfl rfl rfl ?_; intro a35 hE36; clear hE34
    refine c_nil ?_
    have hE37 := hE36.sub (L' := [(4, .bool true)]) ⟨rfl, trivial⟩; clear hE36
    refine p_tn ?_
    refine wp_ret ?_
    refine p_tr ?_
    have hF : F_l_FnExactCloseFrame fp0 fp1 flag = true := by unfold F_l_FnExactCloseFrame; rw [ht32]; first | done | rfl
    refine c_ret1 hE37 rfl rfl ?_
    exact ⟨(by rw [hF]; first | done | rfl), hS22.ext⟩
  ·
    have hp38 := of_decide_eq_false ht32
    have hq39 := szFrame_bound hp38
    have hE40 := hE31; rw [ht32] at hE40; clear hE31
    refine wp_skip ?_
    refine p_tn ?_
    refine c_seq ?_
    refine c_reg ?_
    refine q_step (v := .agg #[.int .i64 fp0, .slice fp1A fp1.length fp1C]) hE40 (y_loadS Try.underlying24 rfl (by kernel_rfl) rfl (St.row (i := 0) hS22 rfl)) rfl rfl rfl ?_; intro a41 hE42; clear hE40
    refine l_step hE42 rfl (l_call (f := 17) (argv := [.agg #[.int .i64 fp0, .slice fp1A fp1.length fp1C]]) hE42 (fun _ => cf_l_toFrame _ _) rfl rfl (d_l_toFrame fp0 fp1A fp1.length fp1C fp1 w19 (St.rdR (i := 1) hS22 rfl) (by first | omega | (simp only [marked_len]; omega))) ?_)
    rintro _ w44 ⟨b49, c50, rfl, ho51, he48⟩ a45 hE46; clear hE42
    have hS47 := St.own hS22 he48 ho51; clear hS22
    refine q_step (v := .int .i64 flag) hE46 (y_move rfl) rfl rfl rfl ?_; intro a52 hE53; clear hE46
    refine l_step hE53 rfl (l_call (f := 46) (argv := [.agg #[.int .i64 fp0, .slice b49 ((fp1).length) c50], .int .i64 flag]) hE53 (fun _ => cf_s_CloseFrame _ _) rfl rfl (c_s_CloseFrame fp0 b49 ((fp1).length) c50 fp1 flag w44 (St.rdO (i := 0) hS47 rfl)) ?_)
    rintro _ w55 ⟨b60, c61, rfl, ho62, he59⟩ a56 hE57; clear hE53
    have hS58 := St.own hS47 he59 ho62; clear hS47
    refine q_step (v := .tuple #[.agg #[.int .i64 (((F_s_CloseFrame fp0 fp1 flag).1).1), .slice b60 ((((F_s_CloseFrame fp0 fp1 flag).1).2).length) c61], .int .i64 ((F_s_CloseFrame fp0 fp1 flag).2)]) hE57 (y_move rfl) rfl rfl rfl ?_; intro a63 hE64; clear hE57
    refine q_step (v := .agg #[.int .i64 (((F_s_CloseFrame fp0 fp1 flag).1).1), .slice b60 ((((F_s_CloseFrame fp0 fp1 flag).1).2).length) c61]) hE64 (y_extract rfl rfl) rfl rfl rfl ?_; intro a65 hE66; clear hE64
    refine q_step (v := .int .i64 ((F_s_CloseFrame fp0 fp1 flag).2)) hE66 (y_extract rfl rfl) rfl rfl rfl ?_; intro a67 hE68; clear hE66
    refine l_step hE68 rfl (l_alloc (z := .agg #[.int .i64 0, .slice none 0 0]) (cs := #[.int .i64 0, .slice none 0 0]) hS58 hE68 (fun _ => by kernel_rfl) rfl rfl ?_)
    intro b69 w70 hS73 he74 a71 hE72; clear hS58 hE68
    refine l_step hE72 rfl (l_storeS (k := 0) (cs' := #[.int .i64 (((F_s_CloseFrame fp0 fp1 flag).1).1), .slice b60 ((((F_s_CloseFrame fp0 fp1 flag).1).2).length) c61]) hS73 hE72 (by kernel_rfl) rfl rfl (by kernel_rfl) rfl rfl ?_)
    intro w76 hS79 a77 hE78; clear hS73 hE72
    refine q_step (v := .int .i64 ((F_s_CloseFrame fp0 fp1 flag).2)) hE78 (y_assign rfl) rfl rfl rfl ?_; intro a81 hE82; clear hE78
    refine c_nil ?_
    have hE83 := hE82.sub (L' := [(1, .int .i64 flag), (2, .pointer (some ⟨b2, 0, none⟩)), (6, .pointer (some ⟨b69, 0, none⟩)), (7, .int .i64 ((F_s_CloseFrame fp0 fp1 flag).2))]) ⟨rfl, rfl, rfl, rfl, trivial⟩; clear hE82
    refine p_tn ?_
    refine c_seq ?_
    refine c_reg ?_
    refine q_step (v := .agg #[.int .i64 fp0, .slice fp1A fp1.length fp1C]) hE83 (y_loadS Try.underlying24 rfl (by kernel_rfl) rfl (St.row (i := 3) hS79 rfl)) rfl rfl rfl ?_; intro a84 hE85; clear hE83
    refine l_step hE85 rfl (l_call (f := 17) (argv := [.agg #[.int .i64 fp0, .slice fp1A fp1.length fp1C]]) hE85 (fun _ => cf_l_toFrame _ _) rfl rfl (d_l_toFrame fp0 fp1A fp1.length fp1C fp1 w76 (St.rdR (i := 4) hS79 rfl) (by first | omega | (simp only [marked_len]; omega))) ?_)
    rintro _ w87 ⟨b92, c93, rfl, ho94, he91⟩ a88 hE89; clear hE85
    have hS90 := St.own hS79 he91 ho94; clear hS79
    refine l_step hE89 rfl (l_alloc (z := .agg #[.int .i64 0, .slice none 0 0]) (cs := #[.int .i64 0, .slice none 0 0]) hS90 hE89 (fun _ => by kernel_rfl) rfl rfl ?_)
    intro b95 w96 hS99 he100 a97 hE98; clear hS90 hE89
    refine l_step hE98 rfl (l_storeS (k := 0) (cs' := #[.int .i64 fp0, .slice b92 ((fp1).length) c93]) hS99 hE98 (by kernel_rfl) rfl rfl (by kernel_rfl) rfl rfl ?_)
    intro w102 hS105 a103 hE104; clear hS99 hE98
    refine c_nil ?_
    have hE107 := hE104.sub (L' := [(1, .int .i64 flag), (2, .pointer (some ⟨b2, 0, none⟩)), (6, .pointer (some ⟨b69, 0, none⟩)), (7, .int .i64 ((F_s_CloseFrame fp0 fp1 flag).2)), (8, .pointer (some ⟨b95, 0, none⟩))]) ⟨rfl, rfl, rfl, rfl, rfl, trivial⟩; clear hE104
    refine p_tn ?_
    refine c_seq ?_
    refine c_reg ?_
    refine q_step (v := .agg #[.int .i64 fp0, .slice b92 ((fp1).length) c93]) hE107 (y_loadS Try.underlying28 rfl (by kernel_rfl) rfl (St.row (i := 0) hS105 rfl)) rfl rfl rfl ?_; intro a108 hE109; clear hE107
    refine q_step (v := .int .i64 flag) hE109 (y_move rfl) rfl rfl rfl ?_; intro a110 hE111; clear hE109
    refine l_step hE111 rfl (l_call (f := 47) (argv := [.agg #[.int .i64 fp0, .slice b92 ((fp1).length) c93], .int .i64 flag]) hE111 (fun _ => cf_CloseFrame _ _) rfl rfl (c_CloseFrame fp0 b92 ((fp1).length) c93 fp1 flag w102 (St.rdO (i := 1) hS105 rfl)) ?_)
    rintro _ w113 ⟨b118, c119, rfl, ho120, he117⟩ a114 hE115; clear hE111
    have hf121 := CloseFrame_len fp0 fp1 flag
    have hS116 := St.own hS105 he117 ho120; clear hS105
    refine q_step (v := .tuple #[.agg #[.int .i64 (((F_CloseFrame fp0 fp1 flag).1).1), .slice b118 ((((F_CloseFrame fp0 fp1 flag).1).2).length) c119], .int .i64 ((F_CloseFrame fp0 fp1 flag).2)]) hE115 (y_move rfl) rfl rfl rfl ?_; intro a122 hE123; clear hE115
    refine q_step (v := .agg #[.int .i64 (((F_CloseFrame fp0 fp1 flag).1).1), .slice b118 ((((F_CloseFrame fp0 fp1 flag).1).2).length) c119]) hE123 (y_extract rfl rfl) rfl rfl rfl ?_; intro a124 hE125; clear hE123
    refine q_step (v := .int .i64 ((F_CloseFrame fp0 fp1 flag).2)) hE125 (y_extract rfl rfl) rfl rfl rfl ?_; intro a126 hE127; clear hE125
    refine l_step hE127 rfl (l_alloc (z := .agg #[.int .i64 0, .slice none 0 0]) (cs := #[.int .i64 0, .slice none 0 0]) hS116 hE127 (fun _ => by kernel_rfl) rfl rfl ?_)
    intro b128 w129 hS132 he133 a130 hE131; clear hS116 hE127
    refine l_step hE131 rfl (l_storeS (k := 0) (cs' := #[.int .i64 (((F_CloseFrame fp0 fp1 flag).1).1), .slice b118 ((((F_CloseFrame fp0 fp1 flag).1).2).length) c119]) hS132 hE131 (by kernel_rfl) rfl rfl (by kernel_rfl) rfl rfl ?_)
    intro w135 hS138 a136 hE137; clear hS132 hE131
    refine q_step (v := .int .i64 ((F_CloseFrame fp0 fp1 flag).2)) hE137 (y_assign rfl) rfl rfl rfl ?_; intro a140 hE141; clear hE137
    refine c_nil ?_
    have hE142 := hE141.sub (L' := [(1, .int .i64 flag), (2, .pointer (some ⟨b2, 0, none⟩)), (6, .pointer (some ⟨b69, 0, none⟩)), (7, .int .i64 ((F_s_CloseFrame fp0 fp1 flag).2)), (8, .pointer (some ⟨b95, 0, none⟩)), (9, .pointer (some ⟨b128, 0, none⟩)), (10, .int .i64 ((F_CloseFrame fp0 fp1 flag).2))]) ⟨rfl, rfl, rfl, rfl, rfl, rfl, rfl, trivial⟩; clear hE141
    refine p_tn ?_
    refine c_seq ?_
    refine c_cut (fun a' w' => E a' 101 [(1, .int .i64 flag), (2, .pointer (some ⟨b2, 0, none⟩)), (6, .pointer (some ⟨b69, 0, none⟩)), (7, .int .i64 ((F_s_CloseFrame fp0 fp1 flag).2)), (8, .pointer (some ⟨b95, 0, none⟩)), (9, .pointer (some ⟨b128, 0, none⟩)), (10, .int .i64 ((F_CloseFrame fp0 fp1 flag).2)), (44, .bool ((!(decide (((((F_CloseFrame fp0 fp1 flag).1).1), (((F_CloseFrame fp0 fp1 flag).1).2)) = ((((F_s_CloseFrame fp0 fp1 flag).1).1), (((F_s_CloseFrame fp0 fp1 flag).1).2))))) || (!decide (((F_CloseFrame fp0 fp1 flag).2) = ((F_s_CloseFrame fp0 fp1 flag).2)))))] ∧ St w w' [.own 2 1 b118 ((((F_CloseFrame fp0 fp1 flag).1).2).length) c119 (((F_CloseFrame fp0 fp1 flag).1).2), .blk b128 #[.int .i64 (((F_CloseFrame fp0 fp1 flag).1).1), .slice b118 ((((F_CloseFrame fp0 fp1 flag).1).2).length) c119] 28, .own 2 1 b92 ((fp1).length) c93 fp1, .blk b95 #[.int .i64 fp0, .slice b92 ((fp1).length) c93] 28, .own 2 1 b60 ((((F_s_CloseFrame fp0 fp1 flag).1).2).length) c61 (((F_s_CloseFrame fp0 fp1 flag).1).2), .blk b69 #[.int .i64 (((F_s_CloseFrame fp0 fp1 flag).1).1), .slice b60 ((((F_s_CloseFrame fp0 fp1 flag).1).2).length) c61] 28, .own 2 1 b49 ((fp1).length) c50 fp1, .rd 1 fp1A fp1.length fp1C fp1, .blk b2 #[.int .i64 fp0, .slice fp1A fp1.length fp1C] 24]) ?_ ?_
    ·
      refine c_reg ?_
      refine q_step (v := .agg #[.int .i64 (((F_CloseFrame fp0 fp1 flag).1).1), .slice b118 ((((F_CloseFrame fp0 fp1 flag).1).2).length) c119]) hE142 (y_loadS Try.underlying28 rfl (by kernel_rfl) rfl (St.row (i := 0) hS138 rfl)) rfl rfl rfl ?_; intro a143 hE144; clear hE142
      refine q_step (v := .agg #[.int .i64 (((F_s_CloseFrame fp0 fp1 flag).1).1), .slice b60 ((((F_s_CloseFrame fp0 fp1 flag).1).2).length) c61]) hE144 (y_loadS Try.underlying28 rfl (by kernel_rfl) rfl (St.row (i := 4) hS138 rfl)) rfl rfl rfl ?_; intro a145 hE146; clear hE144
      refine l_step hE146 rfl (l_call (f := 20) (argv := [.agg #[.int .i64 (((F_CloseFrame fp0 fp1 flag).1).1), .slice b118 ((((F_CloseFrame fp0 fp1 flag).1).2).length) c119], .agg #[.int .i64 (((F_s_CloseFrame fp0 fp1 flag).1).1), .slice b60 ((((F_s_CloseFrame fp0 fp1 flag).1).2).length) c61]]) hE146 (fun _ => cf_l_eqFrame _ _) rfl rfl (d_l_eqFrame (((F_CloseFrame fp0 fp1 flag).1).1) b118 ((((F_CloseFrame fp0 fp1 flag).1).2).length) c119 (((F_CloseFrame fp0 fp1 flag).1).2) (((F_s_CloseFrame fp0 fp1 flag).1).1) b60 ((((F_s_CloseFrame fp0 fp1 flag).1).2).length) c61 (((F_s_CloseFrame fp0 fp1 flag).1).2) w135 (St.rdO (i := 1) hS138 rfl) (St.rdO (i := 5) hS138 rfl)) ?_)
      rintro _ w148 ⟨rfl, he152⟩ a149 hE150; clear hE146
      have hS151 := St.go hS138 he152; clear hS138
      refine q_step (v := .bool (!(decide (((((F_CloseFrame fp0 fp1 flag).1).1), (((F_CloseFrame fp0 fp1 flag).1).2)) = ((((F_s_CloseFrame fp0 fp1 flag).1).1), (((F_s_CloseFrame fp0 fp1 flag).1).2)))))) hE150 (y_not rfl) rfl rfl rfl ?_; intro a153 hE154; clear hE150
      refine q_step (v := .bool (!(decide (((((F_CloseFrame fp0 fp1 flag).1).1), (((F_CloseFrame fp0 fp1 flag).1).2)) = ((((F_s_CloseFrame fp0 fp1 flag).1).1), (((F_s_CloseFrame fp0 fp1 flag).1).2)))))) hE154 (y_move rfl) rfl rfl rfl ?_; intro a155 hE156; clear hE154
      rcases Bool.eq_false_or_eq_true (!(decide (((((F_CloseFrame fp0 fp1 flag).1).1), (((F_CloseFrame fp0 fp1 flag).1).2)) = ((((F_s_CloseFrame fp0 fp1 flag).1).1), (((F_s_CloseFrame fp0 fp1 flag).1).2))))) with hb157 | hb157
      ·
        have hE158 := hE156; rw [hb157] at hE158; clear hE156
        have ht159 := bn_t hb157
        have hp160 := of_decide_eq_false ht159
        refine q_skip hE158 rfl rfl rfl ?_; intro a161 hE162; clear hE158
        refine q_skip hE162 rfl rfl rfl ?_; intro a163 hE164; clear hE162
        refine q_skip hE164 rfl rfl rfl ?_; intro a165 hE166; clear hE164
        refine q_step (v := .bool true) hE166 (y_pick (b := true) rfl rfl) rfl rfl rfl ?_; intro a167 hE168; clear hE166
        refine c_nil ?_
        have hE169 := hE168.sub (L' := [(1, .int .i64 flag), (2, .pointer (some ⟨b2, 0, none⟩)), (6, .pointer (some ⟨b69, 0, none⟩)), (7, .int .i64 ((F_s_CloseFrame fp0 fp1 flag).2)), (8, .pointer (some ⟨b95, 0, none⟩)), (9, .pointer (some ⟨b128, 0, none⟩)), (10, .int .i64 ((F_CloseFrame fp0 fp1 flag).2)), (44, .bool true)]) ⟨rfl, rfl, rfl, rfl, rfl, rfl, rfl, rfl, trivial⟩; clear hE168
        refine p_tn ?_
        have hE170 := hE169.sub (L' := [(1, .int .i64 flag), (2, .pointer (some ⟨b2, 0, none⟩)), (6, .pointer (some ⟨b69, 0, none⟩)), (7, .int .i64 ((F_s_CloseFrame fp0 fp1 flag).2)), (8, .pointer (some ⟨b95, 0, none⟩)), (9, .pointer (some ⟨b128, 0, none⟩)), (10, .int .i64 ((F_CloseFrame fp0 fp1 flag).2)), (44, .bool true)]) ⟨rfl, rfl, rfl, rfl, rfl, rfl, rfl, rfl, trivial⟩
        have hS171 := (St.pick (Γ' := [.own 2 1 b118 ((((F_CloseFrame fp0 fp1 flag).1).2).length) c119 (((F_CloseFrame fp0 fp1 flag).1).2), .blk b128 #[.int .i64 (((F_CloseFrame fp0 fp1 flag).1).1), .slice b118 ((((F_CloseFrame fp0 fp1 flag).1).2).length) c119] 28, .own 2 1 b92 ((fp1).length) c93 fp1, .blk b95 #[.int .i64 fp0, .slice b92 ((fp1).length) c93] 28, .own 2 1 b60 ((((F_s_CloseFrame fp0 fp1 flag).1).2).length) c61 (((F_s_CloseFrame fp0 fp1 flag).1).2), .blk b69 #[.int .i64 (((F_s_CloseFrame fp0 fp1 flag).1).1), .slice b60 ((((F_s_CloseFrame fp0 fp1 flag).1).2).length) c61] 28, .own 2 1 b49 ((fp1).length) c50 fp1, .rd 1 fp1A fp1.length fp1C fp1, .blk b2 #[.int .i64 fp0, .slice fp1A fp1.length fp1C] 24]) hS151 [1, 0, 3, 2, 5, 4, 6, 8, 7] (by decide) rfl)
        exact ⟨(by rw [hb157]; exact hE170), hS171⟩
      ·
        have hE172 := hE156; rw [hb157] at hE172; clear hE156
        have ht173 := bn_f hb157
        have hp174 := of_decide_eq_true ht173
        refine q_step (v := .int .i64 ((F_CloseFrame fp0 fp1 flag).2)) hE172 (y_move rfl) rfl rfl rfl ?_; intro a175 hE176; clear hE172
        refine q_step (v := .int .i64 ((F_s_CloseFrame fp0 fp1 flag).2)) hE176 (y_move rfl) rfl rfl rfl ?_; intro a177 hE178; clear hE176
        refine q_step (v := .bool (!decide (((F_CloseFrame fp0 fp1 flag).2) = ((F_s_CloseFrame fp0 fp1 flag).2)))) hE178 (y_neq rfl rfl) rfl rfl rfl ?_; intro a179 hE180; clear hE178
        refine q_step (v := .bool (!decide (((F_CloseFrame fp0 fp1 flag).2) = ((F_s_CloseFrame fp0 fp1 flag).2)))) hE180 (y_pick (b := false) rfl rfl) rfl rfl rfl ?_; intro a181 hE182; clear hE180
        refine c_nil ?_
        have hE183 := hE182.sub (L' := [(1, .int .i64 flag), (2, .pointer (some ⟨b2, 0, none⟩)), (6, .pointer (some ⟨b69, 0, none⟩)), (7, .int .i64 ((F_s_CloseFrame fp0 fp1 flag).2)), (8, .pointer (some ⟨b95, 0, none⟩)), (9, .pointer (some ⟨b128, 0, none⟩)), (10, .int .i64 ((F_CloseFrame fp0 fp1 flag).2)), (44, .bool (!decide (((F_CloseFrame fp0 fp1 flag).2) = ((F_s_CloseFrame fp0 fp1 flag).2))))]) ⟨rfl, rfl, rfl, rfl, rfl, rfl, rfl, rfl, trivial⟩; clear hE182
        refine p_tn ?_
        have hE184 := hE183.sub (L' := [(1, .int .i64 flag), (2, .pointer (some ⟨b2, 0, none⟩)), (6, .pointer (some ⟨b69, 0, none⟩)), (7, .int .i64 ((F_s_CloseFrame fp0 fp1 flag).2)), (8, .pointer (some ⟨b95, 0, none⟩)), (9, .pointer (some ⟨b128, 0, none⟩)), (10, .int .i64 ((F_CloseFrame fp0 fp1 flag).2)), (44, .bool (!decide (((F_CloseFrame fp0 fp1 flag).2) = ((F_s_CloseFrame fp0 fp1 flag).2))))]) ⟨rfl, rfl, rfl, rfl, rfl, rfl, rfl, rfl, trivial⟩
        have hS185 := (St.pick (Γ' := [.own 2 1 b118 ((((F_CloseFrame fp0 fp1 flag).1).2).length) c119 (((F_CloseFrame fp0 fp1 flag).1).2), .blk b128 #[.int .i64 (((F_CloseFrame fp0 fp1 flag).1).1), .slice b118 ((((F_CloseFrame fp0 fp1 flag).1).2).length) c119] 28, .own 2 1 b92 ((fp1).length) c93 fp1, .blk b95 #[.int .i64 fp0, .slice b92 ((fp1).length) c93] 28, .own 2 1 b60 ((((F_s_CloseFrame fp0 fp1 flag).1).2).length) c61 (((F_s_CloseFrame fp0 fp1 flag).1).2), .blk b69 #[.int .i64 (((F_s_CloseFrame fp0 fp1 flag).1).1), .slice b60 ((((F_s_CloseFrame fp0 fp1 flag).1).2).length) c61] 28, .own 2 1 b49 ((fp1).length) c50 fp1, .rd 1 fp1A fp1.length fp1C fp1, .blk b2 #[.int .i64 fp0, .slice fp1A fp1.length fp1C] 24]) hS151 [1, 0, 3, 2, 5, 4, 6, 8, 7] (by decide) rfl)
        exact ⟨(by rw [hb157]; exact hE184), hS185⟩
    ·
      rintro a186 w187 ⟨hE188, hS189⟩; clear hE142 hS138
      refine c_cond hE188 rfl (fun ht190 => ?_) (fun ht190 => ?_)
      ·
        have hE191 := hE188; rw [ht190] at hE191; clear hE188
        refine c_seq ?_
        refine c_reg ?_
        refine q_step (v := .bool false) hE191 (y_assign rfl) rfl rfl rfl ?_; intro a192 hE193; clear hE191
        refine c_nil ?_
        have hE194 := hE193.sub (L' := [(4, .bool false)]) ⟨rfl, trivial⟩; clear hE193
        refine p_tn ?_
        refine wp_ret ?_
        refine p_tr ?_
        have hF : F_l_FnExactCloseFrame fp0 fp1 flag = false := by unfold F_l_FnExactCloseFrame; rw [ht190, ht32]; first | done | rfl
        refine c_ret1 hE194 rfl rfl ?_
        exact ⟨(by rw [hF]; first | done | rfl), hS189.ext⟩
      ·
        obtain ⟨ht195, ht196⟩ := bor_f ht190
        have ht197 := bn_f ht195
        have hp198 := of_decide_eq_true ht197
        have ht199 := bn_f ht196
        have hp200 := of_decide_eq_true ht199
        have hE201 := hE188; rw [ht190] at hE201; clear hE188
        refine wp_skip ?_
        refine p_tn ?_
        refine c_seq ?_
        refine c_seq ?_
        refine d_start (fun w' => w'.heap[b95]? = some (.cells #[.int .i64 fp0, .slice b92 ((fp1).length) c93] 28 (0, 0)) ∧ w'.heap[b2]? = some (.cells #[.int .i64 fp0, .slice fp1A fp1.length fp1C] 24 (0, 0)) ∧ True) [0, 1] 5 (by kernel_rfl) rfl ?_
        intro w202 he203; have hS204 := St.go hS189 he203; clear hS189
        refine d_take (v := .agg #[.int .i64 fp0, .slice b92 ((fp1).length) c93]) 0 rfl hE201 ⟨(St.row (i := 3) hS204 rfl _ (Ext.refl _)), (St.row (i := 8) hS204 rfl _ (Ext.refl _)), trivial⟩ (y_loadS Try.underlying28 rfl (by kernel_rfl) rfl (fun _ h => h.1)) rfl rfl (by kernel_rfl) (by kernel_rfl) (by kernel_rfl) (by kernel_rfl) rfl rfl (fun _ _ _ h => h) ?_; intro a205 hE206; clear hE201
        refine d_take (v := .agg #[.int .i64 fp0, .slice fp1A fp1.length fp1C]) 1 rfl hE206 ⟨(St.row (i := 3) hS204 rfl _ (Ext.refl _)), (St.row (i := 8) hS204 rfl _ (Ext.refl _)), trivial⟩ (y_loadS Try.underlying24 rfl (by kernel_rfl) rfl (fun _ h => h.2.1)) rfl rfl (by kernel_rfl) (by kernel_rfl) (by kernel_rfl) (by kernel_rfl) rfl rfl (fun _ _ _ h => h) ?_; intro a207 hE208; clear hE206
        refine d_only 2 (by kernel_rfl) rfl hE208 rfl (l_call (f := 17) (argv := [.agg #[.int .i64 fp0, .slice fp1A fp1.length fp1C]]) hE208 (fun _ => cf_l_toFrame _ _) rfl rfl (d_l_toFrame fp0 fp1A fp1.length fp1C fp1 w202 (St.rdR (i := 7) hS204 rfl) (by first | omega | (simp only [marked_len]; omega))) ?_)
        rintro _ w210 ⟨b215, c216, rfl, ho217, he214⟩ a211 hE212; clear hE208
        have hS213 := St.own hS204 he214 ho217; clear hS204
        refine ⟨fun _ _ => ⟨(St.row (i := 4) hS213 rfl _ (Ext.refl _)), (St.row (i := 9) hS213 rfl _ (Ext.refl _)), trivial⟩, ?_⟩
        refine d_only 3 (by kernel_rfl) rfl hE212 rfl (l_call (f := 20) (argv := [.agg #[.int .i64 fp0, .slice b92 ((fp1).length) c93], .agg #[.int .i64 fp0, .slice b215 ((fp1).length) c216]]) hE212 (fun _ => cf_l_eqFrame _ _) rfl rfl (d_l_eqFrame fp0 b92 ((fp1).length) c93 fp1 fp0 b215 ((fp1).length) c216 fp1 w210 (St.rdO (i := 3) hS213 rfl) (St.rdO (i := 0) hS213 rfl)) ?_)
        rintro _ w219 ⟨rfl, he223⟩ a220 hE221; clear hE212
        have hS222 := St.go hS213 he223; clear hS213
        refine ⟨fun h => Bool.noConfusion (h.symm.trans (show exm _ _ _ = true by kernel_rfl)), ?_⟩
        refine d_pure (v := .bool (!(decide ((fp0, fp1) = (fp0, fp1))))) 4 rfl hE221 (y_not rfl) rfl (by kernel_rfl) (by kernel_rfl) (by kernel_rfl) rfl rfl (fun _ _ _ h => h) ?_; intro a224 hE225; clear hE221
        refine d_done (by kernel_rfl) ?_
        have hE226 := hE225.sub (L' := [(1, .int .i64 flag), (2, .pointer (some ⟨b2, 0, none⟩)), (6, .pointer (some ⟨b69, 0, none⟩)), (7, .int .i64 ((F_s_CloseFrame fp0 fp1 flag).2)), (8, .pointer (some ⟨b95, 0, none⟩)), (9, .pointer (some ⟨b128, 0, none⟩)), (10, .int .i64 ((F_CloseFrame fp0 fp1 flag).2)), (49, .bool (!(decide ((fp0, fp1) = (fp0, fp1)))))]) ⟨rfl, rfl, rfl, rfl, rfl, rfl, rfl, rfl, trivial⟩; clear hE225
        refine p_tn ?_
        refine c_cond hE226 rfl (fun ht227 => ?_) (fun ht227 => ?_)
        ·
          have ht228 := bn_t ht227
          have hp229 := of_decide_eq_false ht228
          have hE230 := hE226; rw [ht227] at hE230; clear hE226
          refine c_seq ?_
          refine c_reg ?_
          refine q_step (v := .bool false) hE230 (y_assign rfl) rfl rfl rfl ?_; intro a231 hE232; clear hE230
          refine c_nil ?_
          have hE233 := hE232.sub (L' := [(4, .bool false)]) ⟨rfl, trivial⟩; clear hE232
          refine p_tn ?_
          refine wp_ret ?_
          refine p_tr ?_
          have hF : F_l_FnExactCloseFrame fp0 fp1 flag = false := by unfold F_l_FnExactCloseFrame; rw [ht227, ht190, ht32]; first | done | rfl
          refine c_ret1 hE233 rfl rfl ?_
          exact ⟨(by rw [hF]; first | done | rfl), hS222.ext⟩
        ·
          have ht234 := bn_f ht227
          have hp235 := of_decide_eq_true ht234
          have hE236 := hE226; rw [ht227] at hE236; clear hE226
          refine wp_skip ?_
          refine p_tn ?_
          refine c_seq ?_
          refine c_reg ?_
          refine q_step (v := .int .i64 1) hE236 (y_assign rfl) rfl rfl rfl ?_; intro a237 hE238; clear hE236
          refine c_nil ?_
          have hE239 := hE238.sub (L' := [(1, .int .i64 flag), (2, .pointer (some ⟨b2, 0, none⟩)), (6, .pointer (some ⟨b69, 0, none⟩)), (7, .int .i64 ((F_s_CloseFrame fp0 fp1 flag).2)), (8, .pointer (some ⟨b95, 0, none⟩)), (9, .pointer (some ⟨b128, 0, none⟩)), (10, .int .i64 ((F_CloseFrame fp0 fp1 flag).2)), (11, .int .i64 1)]) ⟨rfl, rfl, rfl, rfl, rfl, rfl, rfl, rfl, trivial⟩; clear hE238
          refine p_tn ?_
          refine c_seq ?_
          refine c_reg ?_
          refine q_step (v := .agg #[.int .i64 fp0, .slice b92 ((fp1).length) c93]) hE239 (y_loadS Try.underlying28 rfl (by kernel_rfl) rfl (St.row (i := 4) hS222 rfl)) rfl rfl rfl ?_; intro a240 hE241; clear hE239
          refine q_step (v := .int .i64 1) hE241 (y_move rfl) rfl rfl rfl ?_; intro a242 hE243; clear hE241
          have hS250 := (St.pick (Γ' := [.own 2 1 b92 ((fp1).length) c93 fp1, .own 2 1 b215 ((fp1).length) c216 fp1, .own 2 1 b118 ((((F_CloseFrame fp0 fp1 flag).1).2).length) c119 (((F_CloseFrame fp0 fp1 flag).1).2), .blk b128 #[.int .i64 (((F_CloseFrame fp0 fp1 flag).1).1), .slice b118 ((((F_CloseFrame fp0 fp1 flag).1).2).length) c119] 28, .blk b95 #[.int .i64 fp0, .slice b92 ((fp1).length) c93] 28, .own 2 1 b60 ((((F_s_CloseFrame fp0 fp1 flag).1).2).length) c61 (((F_s_CloseFrame fp0 fp1 flag).1).2), .blk b69 #[.int .i64 (((F_s_CloseFrame fp0 fp1 flag).1).1), .slice b60 ((((F_s_CloseFrame fp0 fp1 flag).1).2).length) c61] 28, .own 2 1 b49 ((fp1).length) c50 fp1, .rd 1 fp1A fp1.length fp1C fp1, .blk b2 #[.int .i64 fp0, .slice fp1A fp1.length fp1C] 24]) hS222 [3, 0, 1, 2, 4, 5, 6, 7, 8, 9] (by decide) rfl); clear hS222
          refine l_step hE243 rfl (l_call (f := 31) (argv := [.agg #[.int .i64 fp0, .slice b92 ((fp1).length) c93], .int .i64 1]) hE243 (fun _ => cf_l_markFrame _ _) rfl rfl (d_l_markFrame fp0 b92 ((fp1).length) c93 fp1 1 w219 w [.own 2 1 b215 ((fp1).length) c216 fp1, .own 2 1 b118 ((((F_CloseFrame fp0 fp1 flag).1).2).length) c119 (((F_CloseFrame fp0 fp1 flag).1).2), .blk b128 #[.int .i64 (((F_CloseFrame fp0 fp1 flag).1).1), .slice b118 ((((F_CloseFrame fp0 fp1 flag).1).2).length) c119] 28, .blk b95 #[.int .i64 fp0, .slice b92 ((fp1).length) c93] 28, .own 2 1 b60 ((((F_s_CloseFrame fp0 fp1 flag).1).2).length) c61 (((F_s_CloseFrame fp0 fp1 flag).1).2), .blk b69 #[.int .i64 (((F_s_CloseFrame fp0 fp1 flag).1).1), .slice b60 ((((F_s_CloseFrame fp0 fp1 flag).1).2).length) c61] 28, .own 2 1 b49 ((fp1).length) c50 fp1, .rd 1 fp1A fp1.length fp1C fp1, .blk b2 #[.int .i64 fp0, .slice fp1A fp1.length fp1C] 24] hS250 (by first | omega | (simp only [marked_len]; omega)) (by first | omega | (simp only [marked_len]; omega)) (by first | omega | (simp only [marked_len]; omega))) ?_)
          rintro _ w245 ⟨rfl, hS248⟩ a246 hE247; clear hE243 hS250
          refine q_step (v := .int .i64 (1 + (fp1.length : Int))) hE247 (y_assign rfl) rfl rfl rfl ?_; intro a251 hE252; clear hE247
          refine c_nil ?_
          have hE253 := hE252.sub (L' := [(1, .int .i64 flag), (2, .pointer (some ⟨b2, 0, none⟩)), (6, .pointer (some ⟨b69, 0, none⟩)), (7, .int .i64 ((F_s_CloseFrame fp0 fp1 flag).2)), (9, .pointer (some ⟨b128, 0, none⟩)), (10, .int .i64 ((F_CloseFrame fp0 fp1 flag).2)), (11, .int .i64 (1 + (fp1.length : Int)))]) ⟨rfl, rfl, rfl, rfl, rfl, rfl, rfl, trivial⟩; clear hE252
          refine p_tn ?_
          refine c_seq ?_
          refine c_cut (fun a' w' => E a' 101 [(1, .int .i64 flag), (2, .pointer (some ⟨b2, 0, none⟩)), (6, .pointer (some ⟨b69, 0, none⟩)), (7, .int .i64 ((F_s_CloseFrame fp0 fp1 flag).2)), (9, .pointer (some ⟨b128, 0, none⟩)), (65, .bool ((decide ((1 + (fp1.length : Int)) < 0)) || ((!(decide (((((F_CloseFrame fp0 fp1 flag).1).1), (((F_CloseFrame fp0 fp1 flag).1).2)) = ((((F_s_CloseFrame fp0 fp1 flag).1).1), (((F_s_CloseFrame fp0 fp1 flag).1).2))))) || (!decide (((F_CloseFrame fp0 fp1 flag).2) = ((F_s_CloseFrame fp0 fp1 flag).2))))))] ∧ St w w' [.own 2 1 b92 ((fp1).length) c93 (marked fp1.length 1), .own 2 1 b215 ((fp1).length) c216 fp1, .own 2 1 b118 ((((F_CloseFrame fp0 fp1 flag).1).2).length) c119 (((F_CloseFrame fp0 fp1 flag).1).2), .blk b128 #[.int .i64 (((F_CloseFrame fp0 fp1 flag).1).1), .slice b118 ((((F_CloseFrame fp0 fp1 flag).1).2).length) c119] 28, .blk b95 #[.int .i64 fp0, .slice b92 ((fp1).length) c93] 28, .own 2 1 b60 ((((F_s_CloseFrame fp0 fp1 flag).1).2).length) c61 (((F_s_CloseFrame fp0 fp1 flag).1).2), .blk b69 #[.int .i64 (((F_s_CloseFrame fp0 fp1 flag).1).1), .slice b60 ((((F_s_CloseFrame fp0 fp1 flag).1).2).length) c61] 28, .own 2 1 b49 ((fp1).length) c50 fp1, .rd 1 fp1A fp1.length fp1C fp1, .blk b2 #[.int .i64 fp0, .slice fp1A fp1.length fp1C] 24]) ?_ ?_
          ·
            refine c_reg ?_
            refine q_step (v := .int .i64 (1 + (fp1.length : Int))) hE253 (y_move rfl) rfl rfl rfl ?_; intro a254 hE255; clear hE253
            refine q_step (v := .bool (decide ((1 + (fp1.length : Int)) < 0))) hE255 (y_lss rfl rfl) rfl rfl rfl ?_; intro a256 hE257; clear hE255
            refine q_step (v := .bool (decide ((1 + (fp1.length : Int)) < 0))) hE257 (y_move rfl) rfl rfl rfl ?_; intro a258 hE259; clear hE257
            rcases Bool.eq_false_or_eq_true (decide ((1 + (fp1.length : Int)) < 0)) with hb260 | hb260
            ·
              have hE261 := hE259; rw [hb260] at hE261; clear hE259
              have hp262 := of_decide_eq_true hb260
              refine q_skip hE261 rfl rfl rfl ?_; intro a263 hE264; clear hE261
              refine q_skip hE264 rfl rfl rfl ?_; intro a265 hE266; clear hE264
              refine q_skip hE266 rfl rfl rfl ?_; intro a267 hE268; clear hE266
              refine q_skip hE268 rfl rfl rfl ?_; intro a269 hE270; clear hE268
              refine q_step (v := .bool true) hE270 (y_pick (b := true) rfl rfl) rfl rfl rfl ?_; intro a271 hE272; clear hE270
              refine q_step (v := .bool true) hE272 (y_move rfl) rfl rfl rfl ?_; intro a273 hE274; clear hE272
              refine q_skip hE274 rfl rfl rfl ?_; intro a275 hE276; clear hE274
              refine q_skip hE276 rfl rfl rfl ?_; intro a277 hE278; clear hE276
              refine q_skip hE278 rfl rfl rfl ?_; intro a279 hE280; clear hE278
              refine q_step (v := .bool true) hE280 (y_pick (b := true) rfl rfl) rfl rfl rfl ?_; intro a281 hE282; clear hE280
              refine c_nil ?_
              have hE283 := hE282.sub (L' := [(1, .int .i64 flag), (2, .pointer (some ⟨b2, 0, none⟩)), (6, .pointer (some ⟨b69, 0, none⟩)), (7, .int .i64 ((F_s_CloseFrame fp0 fp1 flag).2)), (9, .pointer (some ⟨b128, 0, none⟩)), (65, .bool true)]) ⟨rfl, rfl, rfl, rfl, rfl, rfl, trivial⟩; clear hE282
              refine p_tn ?_
              have hE284 := hE283.sub (L' := [(1, .int .i64 flag), (2, .pointer (some ⟨b2, 0, none⟩)), (6, .pointer (some ⟨b69, 0, none⟩)), (7, .int .i64 ((F_s_CloseFrame fp0 fp1 flag).2)), (9, .pointer (some ⟨b128, 0, none⟩)), (65, .bool true)]) ⟨rfl, rfl, rfl, rfl, rfl, rfl, trivial⟩
              have hS285 := (St.pick (Γ' := [.own 2 1 b92 ((fp1).length) c93 (marked fp1.length 1), .own 2 1 b215 ((fp1).length) c216 fp1, .own 2 1 b118 ((((F_CloseFrame fp0 fp1 flag).1).2).length) c119 (((F_CloseFrame fp0 fp1 flag).1).2), .blk b128 #[.int .i64 (((F_CloseFrame fp0 fp1 flag).1).1), .slice b118 ((((F_CloseFrame fp0 fp1 flag).1).2).length) c119] 28, .blk b95 #[.int .i64 fp0, .slice b92 ((fp1).length) c93] 28, .own 2 1 b60 ((((F_s_CloseFrame fp0 fp1 flag).1).2).length) c61 (((F_s_CloseFrame fp0 fp1 flag).1).2), .blk b69 #[.int .i64 (((F_s_CloseFrame fp0 fp1 flag).1).1), .slice b60 ((((F_s_CloseFrame fp0 fp1 flag).1).2).length) c61] 28, .own 2 1 b49 ((fp1).length) c50 fp1, .rd 1 fp1A fp1.length fp1C fp1, .blk b2 #[.int .i64 fp0, .slice fp1A fp1.length fp1C] 24]) hS248 [0, 1, 2, 3, 4, 5, 6, 7, 8, 9] (by decide) rfl)
              exact ⟨(by rw [hb260]; exact hE284), hS285⟩
            ·
              have hE286 := hE259; rw [hb260] at hE286; clear hE259
              have hp287 := of_decide_eq_false hb260
              refine q_step (v := .agg #[.int .i64 (((F_CloseFrame fp0 fp1 flag).1).1), .slice b118 ((((F_CloseFrame fp0 fp1 flag).1).2).length) c119]) hE286 (y_loadS Try.underlying28 rfl (by kernel_rfl) rfl (St.row (i := 3) hS248 rfl)) rfl rfl rfl ?_; intro a288 hE289; clear hE286
              refine q_step (v := .agg #[.int .i64 (((F_s_CloseFrame fp0 fp1 flag).1).1), .slice b60 ((((F_s_CloseFrame fp0 fp1 flag).1).2).length) c61]) hE289 (y_loadS Try.underlying28 rfl (by kernel_rfl) rfl (St.row (i := 6) hS248 rfl)) rfl rfl rfl ?_; intro a290 hE291; clear hE289
              refine l_step hE291 rfl (l_call (f := 20) (argv := [.agg #[.int .i64 (((F_CloseFrame fp0 fp1 flag).1).1), .slice b118 ((((F_CloseFrame fp0 fp1 flag).1).2).length) c119], .agg #[.int .i64 (((F_s_CloseFrame fp0 fp1 flag).1).1), .slice b60 ((((F_s_CloseFrame fp0 fp1 flag).1).2).length) c61]]) hE291 (fun _ => cf_l_eqFrame _ _) rfl rfl (d_l_eqFrame (((F_CloseFrame fp0 fp1 flag).1).1) b118 ((((F_CloseFrame fp0 fp1 flag).1).2).length) c119 (((F_CloseFrame fp0 fp1 flag).1).2) (((F_s_CloseFrame fp0 fp1 flag).1).1) b60 ((((F_s_CloseFrame fp0 fp1 flag).1).2).length) c61 (((F_s_CloseFrame fp0 fp1 flag).1).2) w245 (St.rdO (i := 2) hS248 rfl) (St.rdO (i := 5) hS248 rfl)) ?_)
              rintro _ w293 ⟨rfl, he297⟩ a294 hE295; clear hE291
              have hS296 := St.go hS248 he297; clear hS248
              refine q_step (v := .bool (!(decide (((((F_CloseFrame fp0 fp1 flag).1).1), (((F_CloseFrame fp0 fp1 flag).1).2)) = ((((F_s_CloseFrame fp0 fp1 flag).1).1), (((F_s_CloseFrame fp0 fp1 flag).1).2)))))) hE295 (y_not rfl) rfl rfl rfl ?_; intro a298 hE299; clear hE295
              refine q_step (v := .bool (!(decide (((((F_CloseFrame fp0 fp1 flag).1).1), (((F_CloseFrame fp0 fp1 flag).1).2)) = ((((F_s_CloseFrame fp0 fp1 flag).1).1), (((F_s_CloseFrame fp0 fp1 flag).1).2)))))) hE299 (y_pick (b := false) rfl rfl) rfl rfl rfl ?_; intro a300 hE301; clear hE299
              refine q_step (v := .bool (!(decide (((((F_CloseFrame fp0 fp1 flag).1).1), (((F_CloseFrame fp0 fp1 flag).1).2)) = ((((F_s_CloseFrame fp0 fp1 flag).1).1), (((F_s_CloseFrame fp0 fp1 flag).1).2)))))) hE301 (y_move rfl) rfl rfl rfl ?_; intro a302 hE303; clear hE301
              rcases Bool.eq_false_or_eq_true (!(decide (((((F_CloseFrame fp0 fp1 flag).1).1), (((F_CloseFrame fp0 fp1 flag).1).2)) = ((((F_s_CloseFrame fp0 fp1 flag).1).1), (((F_s_CloseFrame fp0 fp1 flag).1).2))))) with hb304 | hb304
              ·
                have hE305 := hE303; rw [hb304] at hE305; clear hE303
                have ht306 := bn_t hb304
                have hp307 := of_decide_eq_false ht306
                refine q_skip hE305 rfl rfl rfl ?_; intro a308 hE309; clear hE305
                refine q_skip hE309 rfl rfl rfl ?_; intro a310 hE311; clear hE309
                refine q_skip hE311 rfl rfl rfl ?_; intro a312 hE313; clear hE311
                refine q_step (v := .bool true) hE313 (y_pick (b := true) rfl rfl) rfl rfl rfl ?_; intro a314 hE315; clear hE313
                refine c_nil ?_
                have hE316 := hE315.sub (L' := [(1, .int .i64 flag), (2, .pointer (some ⟨b2, 0, none⟩)), (6, .pointer (some ⟨b69, 0, none⟩)), (7, .int .i64 ((F_s_CloseFrame fp0 fp1 flag).2)), (9, .pointer (some ⟨b128, 0, none⟩)), (65, .bool true)]) ⟨rfl, rfl, rfl, rfl, rfl, rfl, trivial⟩; clear hE315
                refine p_tn ?_
                have hE317 := hE316.sub (L' := [(1, .int .i64 flag), (2, .pointer (some ⟨b2, 0, none⟩)), (6, .pointer (some ⟨b69, 0, none⟩)), (7, .int .i64 ((F_s_CloseFrame fp0 fp1 flag).2)), (9, .pointer (some ⟨b128, 0, none⟩)), (65, .bool true)]) ⟨rfl, rfl, rfl, rfl, rfl, rfl, trivial⟩
                have hS318 := (St.pick (Γ' := [.own 2 1 b92 ((fp1).length) c93 (marked fp1.length 1), .own 2 1 b215 ((fp1).length) c216 fp1, .own 2 1 b118 ((((F_CloseFrame fp0 fp1 flag).1).2).length) c119 (((F_CloseFrame fp0 fp1 flag).1).2), .blk b128 #[.int .i64 (((F_CloseFrame fp0 fp1 flag).1).1), .slice b118 ((((F_CloseFrame fp0 fp1 flag).1).2).length) c119] 28, .blk b95 #[.int .i64 fp0, .slice b92 ((fp1).length) c93] 28, .own 2 1 b60 ((((F_s_CloseFrame fp0 fp1 flag).1).2).length) c61 (((F_s_CloseFrame fp0 fp1 flag).1).2), .blk b69 #[.int .i64 (((F_s_CloseFrame fp0 fp1 flag).1).1), .slice b60 ((((F_s_CloseFrame fp0 fp1 flag).1).2).length) c61] 28, .own 2 1 b49 ((fp1).length) c50 fp1, .rd 1 fp1A fp1.length fp1C fp1, .blk b2 #[.int .i64 fp0, .slice fp1A fp1.length fp1C] 24]) hS296 [0, 1, 2, 3, 4, 5, 6, 7, 8, 9] (by decide) rfl)
                exact ⟨(by rw [hb304, hb260]; exact hE317), hS318⟩
              ·
                have hE319 := hE303; rw [hb304] at hE319; clear hE303
                have ht320 := bn_f hb304
                have hp321 := of_decide_eq_true ht320
                refine q_step (v := .int .i64 ((F_CloseFrame fp0 fp1 flag).2)) hE319 (y_move rfl) rfl rfl rfl ?_; intro a322 hE323; clear hE319
                refine q_step (v := .int .i64 ((F_s_CloseFrame fp0 fp1 flag).2)) hE323 (y_move rfl) rfl rfl rfl ?_; intro a324 hE325; clear hE323
                refine q_step (v := .bool (!decide (((F_CloseFrame fp0 fp1 flag).2) = ((F_s_CloseFrame fp0 fp1 flag).2)))) hE325 (y_neq rfl rfl) rfl rfl rfl ?_; intro a326 hE327; clear hE325
                refine q_step (v := .bool (!decide (((F_CloseFrame fp0 fp1 flag).2) = ((F_s_CloseFrame fp0 fp1 flag).2)))) hE327 (y_pick (b := false) rfl rfl) rfl rfl rfl ?_; intro a328 hE329; clear hE327
                refine c_nil ?_
                have hE330 := hE329.sub (L' := [(1, .int .i64 flag), (2, .pointer (some ⟨b2, 0, none⟩)), (6, .pointer (some ⟨b69, 0, none⟩)), (7, .int .i64 ((F_s_CloseFrame fp0 fp1 flag).2)), (9, .pointer (some ⟨b128, 0, none⟩)), (65, .bool (!decide (((F_CloseFrame fp0 fp1 flag).2) = ((F_s_CloseFrame fp0 fp1 flag).2))))]) ⟨rfl, rfl, rfl, rfl, rfl, rfl, trivial⟩; clear hE329
                refine p_tn ?_
                have hE331 := hE330.sub (L' := [(1, .int .i64 flag), (2, .pointer (some ⟨b2, 0, none⟩)), (6, .pointer (some ⟨b69, 0, none⟩)), (7, .int .i64 ((F_s_CloseFrame fp0 fp1 flag).2)), (9, .pointer (some ⟨b128, 0, none⟩)), (65, .bool (!decide (((F_CloseFrame fp0 fp1 flag).2) = ((F_s_CloseFrame fp0 fp1 flag).2))))]) ⟨rfl, rfl, rfl, rfl, rfl, rfl, trivial⟩
                have hS332 := (St.pick (Γ' := [.own 2 1 b92 ((fp1).length) c93 (marked fp1.length 1), .own 2 1 b215 ((fp1).length) c216 fp1, .own 2 1 b118 ((((F_CloseFrame fp0 fp1 flag).1).2).length) c119 (((F_CloseFrame fp0 fp1 flag).1).2), .blk b128 #[.int .i64 (((F_CloseFrame fp0 fp1 flag).1).1), .slice b118 ((((F_CloseFrame fp0 fp1 flag).1).2).length) c119] 28, .blk b95 #[.int .i64 fp0, .slice b92 ((fp1).length) c93] 28, .own 2 1 b60 ((((F_s_CloseFrame fp0 fp1 flag).1).2).length) c61 (((F_s_CloseFrame fp0 fp1 flag).1).2), .blk b69 #[.int .i64 (((F_s_CloseFrame fp0 fp1 flag).1).1), .slice b60 ((((F_s_CloseFrame fp0 fp1 flag).1).2).length) c61] 28, .own 2 1 b49 ((fp1).length) c50 fp1, .rd 1 fp1A fp1.length fp1C fp1, .blk b2 #[.int .i64 fp0, .slice fp1A fp1.length fp1C] 24]) hS296 [0, 1, 2, 3, 4, 5, 6, 7, 8, 9] (by decide) rfl)
                exact ⟨(by rw [hb304, hb260]; exact hE331), hS332⟩
          ·
            rintro a333 w334 ⟨hE335, hS336⟩; clear hE253 hS248
            refine c_cond hE335 rfl (fun ht337 => ?_) (fun ht337 => ?_)
            ·
              have hE338 := hE335; rw [ht337] at hE338; clear hE335
              refine c_seq ?_
              refine c_reg ?_
              refine q_step (v := .bool false) hE338 (y_assign rfl) rfl rfl rfl ?_; intro a339 hE340; clear hE338
              refine c_nil ?_
              have hE341 := hE340.sub (L' := [(4, .bool false)]) ⟨rfl, trivial⟩; clear hE340
              refine p_tn ?_
              refine wp_ret ?_
              refine p_tr ?_
              have hF : F_l_FnExactCloseFrame fp0 fp1 flag = false := by unfold F_l_FnExactCloseFrame; rw [ht337, ht227, ht190, ht32]; first | done | rfl
              refine c_ret1 hE341 rfl rfl ?_
              exact ⟨(by rw [hF]; first | done | rfl), hS336.ext⟩
            ·
              obtain ⟨ht342, ht343⟩ := bor_f ht337
              have hp344 := of_decide_eq_false ht342
              obtain ⟨ht345, ht346⟩ := bor_f ht343
              have ht347 := bn_f ht345
              have hp348 := of_decide_eq_true ht347
              have ht349 := bn_f ht346
              have hp350 := of_decide_eq_true ht349
              have hE351 := hE335; rw [ht337] at hE351; clear hE335
              refine wp_skip ?_
              refine p_tn ?_
              refine c_seq ?_
              refine c_reg ?_
              refine q_step (v := .int .i64 1) hE351 (y_assign rfl) rfl rfl rfl ?_; intro a352 hE353; clear hE351
              refine c_nil ?_
              have hE354 := hE353.sub (L' := [(1, .int .i64 flag), (2, .pointer (some ⟨b2, 0, none⟩)), (6, .pointer (some ⟨b69, 0, none⟩)), (7, .int .i64 ((F_s_CloseFrame fp0 fp1 flag).2)), (9, .pointer (some ⟨b128, 0, none⟩)), (12, .int .i64 1)]) ⟨rfl, rfl, rfl, rfl, rfl, rfl, trivial⟩; clear hE353
              refine p_tn ?_
              refine c_seq ?_
              refine c_reg ?_
              refine q_step (v := .agg #[.int .i64 (((F_CloseFrame fp0 fp1 flag).1).1), .slice b118 ((((F_CloseFrame fp0 fp1 flag).1).2).length) c119]) hE354 (y_loadS Try.underlying28 rfl (by kernel_rfl) rfl (St.row (i := 3) hS336 rfl)) rfl rfl rfl ?_; intro a355 hE356; clear hE354
              refine q_step (v := .int .i64 1) hE356 (y_move rfl) rfl rfl rfl ?_; intro a357 hE358; clear hE356
              have hS365 := (St.pick (Γ' := [.own 2 1 b118 ((((F_CloseFrame fp0 fp1 flag).1).2).length) c119 (((F_CloseFrame fp0 fp1 flag).1).2), .own 2 1 b92 ((fp1).length) c93 (marked fp1.length 1), .own 2 1 b215 ((fp1).length) c216 fp1, .blk b128 #[.int .i64 (((F_CloseFrame fp0 fp1 flag).1).1), .slice b118 ((((F_CloseFrame fp0 fp1 flag).1).2).length) c119] 28, .blk b95 #[.int .i64 fp0, .slice b92 ((fp1).length) c93] 28, .own 2 1 b60 ((((F_s_CloseFrame fp0 fp1 flag).1).2).length) c61 (((F_s_CloseFrame fp0 fp1 flag).1).2), .blk b69 #[.int .i64 (((F_s_CloseFrame fp0 fp1 flag).1).1), .slice b60 ((((F_s_CloseFrame fp0 fp1 flag).1).2).length) c61] 28, .own 2 1 b49 ((fp1).length) c50 fp1, .rd 1 fp1A fp1.length fp1C fp1, .blk b2 #[.int .i64 fp0, .slice fp1A fp1.length fp1C] 24]) hS336 [2, 0, 1, 3, 4, 5, 6, 7, 8, 9] (by decide) rfl); clear hS336
              refine l_step hE358 rfl (l_call (f := 31) (argv := [.agg #[.int .i64 (((F_CloseFrame fp0 fp1 flag).1).1), .slice b118 ((((F_CloseFrame fp0 fp1 flag).1).2).length) c119], .int .i64 1]) hE358 (fun _ => cf_l_markFrame _ _) rfl rfl (d_l_markFrame (((F_CloseFrame fp0 fp1 flag).1).1) b118 ((((F_CloseFrame fp0 fp1 flag).1).2).length) c119 (((F_CloseFrame fp0 fp1 flag).1).2) 1 w334 w [.own 2 1 b92 ((fp1).length) c93 (marked fp1.length 1), .own 2 1 b215 ((fp1).length) c216 fp1, .blk b128 #[.int .i64 (((F_CloseFrame fp0 fp1 flag).1).1), .slice b118 ((((F_CloseFrame fp0 fp1 flag).1).2).length) c119] 28, .blk b95 #[.int .i64 fp0, .slice b92 ((fp1).length) c93] 28, .own 2 1 b60 ((((F_s_CloseFrame fp0 fp1 flag).1).2).length) c61 (((F_s_CloseFrame fp0 fp1 flag).1).2), .blk b69 #[.int .i64 (((F_s_CloseFrame fp0 fp1 flag).1).1), .slice b60 ((((F_s_CloseFrame fp0 fp1 flag).1).2).length) c61] 28, .own 2 1 b49 ((fp1).length) c50 fp1, .rd 1 fp1A fp1.length fp1C fp1, .blk b2 #[.int .i64 fp0, .slice fp1A fp1.length fp1C] 24] hS365 (by first | omega | (simp only [marked_len]; omega)) (by first | omega | (simp only [marked_len]; omega)) (by first | omega | (simp only [marked_len]; omega))) ?_)
              rintro _ w360 ⟨rfl, hS363⟩ a361 hE362; clear hE358 hS365
              refine q_step (v := .int .i64 (1 + ((((F_CloseFrame fp0 fp1 flag).1).2).length : Int))) hE362 (y_assign rfl) rfl rfl rfl ?_; intro a366 hE367; clear hE362
              refine c_nil ?_
              have hE368 := hE367.sub (L' := [(1, .int .i64 flag), (2, .pointer (some ⟨b2, 0, none⟩)), (6, .pointer (some ⟨b69, 0, none⟩)), (7, .int .i64 ((F_s_CloseFrame fp0 fp1 flag).2)), (9, .pointer (some ⟨b128, 0, none⟩)), (12, .int .i64 (1 + ((((F_CloseFrame fp0 fp1 flag).1).2).length : Int)))]) ⟨rfl, rfl, rfl, rfl, rfl, rfl, trivial⟩; clear hE367
              refine p_tn ?_
              refine c_seq ?_
              refine c_reg ?_
              refine q_step (v := .int .i64 1) hE368 (y_assign rfl) rfl rfl rfl ?_; intro a369 hE370; clear hE368
              refine c_nil ?_
              have hE371 := hE370.sub (L' := [(1, .int .i64 flag), (2, .pointer (some ⟨b2, 0, none⟩)), (6, .pointer (some ⟨b69, 0, none⟩)), (7, .int .i64 ((F_s_CloseFrame fp0 fp1 flag).2)), (9, .pointer (some ⟨b128, 0, none⟩)), (12, .int .i64 (1 + ((((F_CloseFrame fp0 fp1 flag).1).2).length : Int))), (13, .int .i64 1)]) ⟨rfl, rfl, rfl, rfl, rfl, rfl, rfl, trivial⟩; clear hE370
              refine p_tn ?_
              refine c_seq ?_
              refine c_reg ?_
              refine q_step (v := .agg #[.int .i64 (((F_CloseFrame fp0 fp1 flag).1).1), .slice b118 ((((F_CloseFrame fp0 fp1 flag).1).2).length) c119]) hE371 (y_loadS Try.underlying28 rfl (by kernel_rfl) rfl (St.row (i := 3) hS363 rfl)) rfl rfl rfl ?_; intro a372 hE373; clear hE371
              refine q_step (v := .int .i64 1) hE373 (y_move rfl) rfl rfl rfl ?_; intro a374 hE375; clear hE373
              refine l_step hE375 rfl (l_call (f := 33) (argv := [.agg #[.int .i64 (((F_CloseFrame fp0 fp1 flag).1).1), .slice b118 ((((F_CloseFrame fp0 fp1 flag).1).2).length) c119], .int .i64 1]) hE375 (fun _ => cf_l_heldFrame _ _) rfl rfl (c_l_heldFrame (((F_CloseFrame fp0 fp1 flag).1).1) b118 ((((F_CloseFrame fp0 fp1 flag).1).2).length) c119 (marked (((F_CloseFrame fp0 fp1 flag).1).2).length 1) 1 w360 (St.rdO (i := 0) hS363 rfl) (by first | omega | (simp only [marked_len]; omega)) (by first | omega | (simp only [marked_len]; omega)) (by first | omega | (simp only [marked_len]; omega))) ?_)
              rintro _ w377 ⟨rfl, he381⟩ a378 hE379; clear hE375
              have hf382 := heldFrame_le (((F_CloseFrame fp0 fp1 flag).1).1) (marked (((F_CloseFrame fp0 fp1 flag).1).2).length 1) 1
              have hS380 := St.go hS363 he381; clear hS363
              refine q_step (v := .int .i64 (F_l_heldFrame (((F_CloseFrame fp0 fp1 flag).1).1) (marked (((F_CloseFrame fp0 fp1 flag).1).2).length 1) 1)) hE379 (y_assign rfl) rfl rfl rfl ?_; intro a383 hE384; clear hE379
              refine c_nil ?_
              have hE385 := hE384.sub (L' := [(1, .int .i64 flag), (2, .pointer (some ⟨b2, 0, none⟩)), (6, .pointer (some ⟨b69, 0, none⟩)), (7, .int .i64 ((F_s_CloseFrame fp0 fp1 flag).2)), (9, .pointer (some ⟨b128, 0, none⟩)), (12, .int .i64 (1 + ((((F_CloseFrame fp0 fp1 flag).1).2).length : Int))), (13, .int .i64 (F_l_heldFrame (((F_CloseFrame fp0 fp1 flag).1).1) (marked (((F_CloseFrame fp0 fp1 flag).1).2).length 1) 1))]) ⟨rfl, rfl, rfl, rfl, rfl, rfl, rfl, trivial⟩; clear hE384
              refine p_tn ?_
              refine c_seq ?_
              refine c_seq ?_
              refine c_reg ?_
              refine q_step (v := .int .i64 (F_l_heldFrame (((F_CloseFrame fp0 fp1 flag).1).1) (marked (((F_CloseFrame fp0 fp1 flag).1).2).length 1) 1)) hE385 (y_move rfl) rfl rfl rfl ?_; intro a386 hE387; clear hE385
              refine q_step (v := .bool (decide ((F_l_heldFrame (((F_CloseFrame fp0 fp1 flag).1).1) (marked (((F_CloseFrame fp0 fp1 flag).1).2).length 1) 1) < 0))) hE387 (y_lss rfl rfl) rfl rfl rfl ?_; intro a388 hE389; clear hE387
              refine c_nil ?_
              have hE390 := hE389.sub (L' := [(1, .int .i64 flag), (2, .pointer (some ⟨b2, 0, none⟩)), (6, .pointer (some ⟨b69, 0, none⟩)), (7, .int .i64 ((F_s_CloseFrame fp0 fp1 flag).2)), (9, .pointer (some ⟨b128, 0, none⟩)), (12, .int .i64 (1 + ((((F_CloseFrame fp0 fp1 flag).1).2).length : Int))), (13, .int .i64 (F_l_heldFrame (((F_CloseFrame fp0 fp1 flag).1).1) (marked (((F_CloseFrame fp0 fp1 flag).1).2).length 1) 1)), (73, .bool (decide ((F_l_heldFrame (((F_CloseFrame fp0 fp1 flag).1).1) (marked (((F_CloseFrame fp0 fp1 flag).1).2).length 1) 1) < 0)))]) ⟨rfl, rfl, rfl, rfl, rfl, rfl, rfl, rfl, trivial⟩; clear hE389
              refine p_tn ?_
              refine c_cond hE390 rfl (fun ht391 => ?_) (fun ht391 => ?_)
              ·
                have hp392 := of_decide_eq_true ht391
                have hE393 := hE390; rw [ht391] at hE393; clear hE390
                refine c_seq ?_
                refine c_reg ?_
                refine q_step (v := .bool false) hE393 (y_assign rfl) rfl rfl rfl ?_; intro a394 hE395; clear hE393
                refine c_nil ?_
                have hE396 := hE395.sub (L' := [(4, .bool false)]) ⟨rfl, trivial⟩; clear hE395
                refine p_tn ?_
                refine wp_ret ?_
                refine p_tr ?_
                have hF : F_l_FnExactCloseFrame fp0 fp1 flag = false := by unfold F_l_FnExactCloseFrame; rw [ht391, ht337, ht227, ht190, ht32]; first | done | rfl
                refine c_ret1 hE396 rfl rfl ?_
                exact ⟨(by rw [hF]; first | done | rfl), hS380.ext⟩
              ·
                have hp397 := of_decide_eq_false ht391
                have hE398 := hE390; rw [ht391] at hE398; clear hE390
                refine wp_skip ?_
                refine p_tn ?_
                refine c_seq ?_
                refine c_seq ?_
                refine c_reg ?_
                refine q_step (v := .int .i64 (F_l_heldFrame (((F_CloseFrame fp0 fp1 flag).1).1) (marked (((F_CloseFrame fp0 fp1 flag).1).2).length 1) 1)) hE398 (y_move rfl) rfl rfl rfl ?_; intro a399 hE400; clear hE398
                refine q_step (v := .int .i64 (1 + ((((F_CloseFrame fp0 fp1 flag).1).2).length : Int))) hE400 (y_move rfl) rfl rfl rfl ?_; intro a401 hE402; clear hE400
                refine q_step (v := .bool (!decide ((F_l_heldFrame (((F_CloseFrame fp0 fp1 flag).1).1) (marked (((F_CloseFrame fp0 fp1 flag).1).2).length 1) 1) = (1 + ((((F_CloseFrame fp0 fp1 flag).1).2).length : Int))))) hE402 (y_neq rfl rfl) rfl rfl rfl ?_; intro a403 hE404; clear hE402
                refine c_nil ?_
                have hE405 := hE404.sub (L' := [(1, .int .i64 flag), (2, .pointer (some ⟨b2, 0, none⟩)), (6, .pointer (some ⟨b69, 0, none⟩)), (7, .int .i64 ((F_s_CloseFrame fp0 fp1 flag).2)), (9, .pointer (some ⟨b128, 0, none⟩)), (12, .int .i64 (1 + ((((F_CloseFrame fp0 fp1 flag).1).2).length : Int))), (76, .bool (!decide ((F_l_heldFrame (((F_CloseFrame fp0 fp1 flag).1).1) (marked (((F_CloseFrame fp0 fp1 flag).1).2).length 1) 1) = (1 + ((((F_CloseFrame fp0 fp1 flag).1).2).length : Int)))))]) ⟨rfl, rfl, rfl, rfl, rfl, rfl, rfl, trivial⟩; clear hE404
                refine p_tn ?_
                refine c_cond hE405 rfl (fun ht406 => ?_) (fun ht406 => ?_)
                ·
                  have ht407 := bn_t ht406
                  have hp408 := of_decide_eq_false ht407
                  have hE409 := hE405; rw [ht406] at hE409; clear hE405
                  refine c_seq ?_
                  refine c_reg ?_
                  refine q_step (v := .bool false) hE409 (y_assign rfl) rfl rfl rfl ?_; intro a410 hE411; clear hE409
                  refine c_nil ?_
                  have hE412 := hE411.sub (L' := [(4, .bool false)]) ⟨rfl, trivial⟩; clear hE411
                  refine p_tn ?_
                  refine wp_ret ?_
                  refine p_tr ?_
                  have hF : F_l_FnExactCloseFrame fp0 fp1 flag = false := by unfold F_l_FnExactCloseFrame; rw [ht406, ht391, ht337, ht227, ht190, ht32]; first | done | rfl
                  refine c_ret1 hE412 rfl rfl ?_
                  exact ⟨(by rw [hF]; first | done | rfl), hS380.ext⟩
                ·
                  have ht413 := bn_f ht406
                  have hp414 := of_decide_eq_true ht413
                  have hE415 := hE405; rw [ht406] at hE415; clear hE405
                  refine wp_skip ?_
                  refine p_tn ?_
                  refine c_seq ?_
                  refine c_reg ?_
                  refine q_step (v := .agg #[.int .i64 fp0, .slice fp1A fp1.length fp1C]) hE415 (y_loadS Try.underlying24 rfl (by kernel_rfl) rfl (St.row (i := 9) hS380 rfl)) rfl rfl rfl ?_; intro a416 hE417; clear hE415
                  refine l_step hE417 rfl (l_call (f := 17) (argv := [.agg #[.int .i64 fp0, .slice fp1A fp1.length fp1C]]) hE417 (fun _ => cf_l_toFrame _ _) rfl rfl (d_l_toFrame fp0 fp1A fp1.length fp1C fp1 w377 (St.rdR (i := 8) hS380 rfl) (by first | omega | (simp only [marked_len]; omega))) ?_)
                  rintro _ w419 ⟨b424, c425, rfl, ho426, he423⟩ a420 hE421; clear hE417
                  have hS422 := St.own hS380 he423 ho426; clear hS380
                  refine q_step (v := .int .i64 flag) hE421 (y_move rfl) rfl rfl rfl ?_; intro a427 hE428; clear hE421
                  refine l_step hE428 rfl (l_call (f := 47) (argv := [.agg #[.int .i64 fp0, .slice b424 ((fp1).length) c425], .int .i64 flag]) hE428 (fun _ => cf_CloseFrame _ _) rfl rfl (c_CloseFrame fp0 b424 ((fp1).length) c425 fp1 flag w419 (St.rdO (i := 0) hS422 rfl)) ?_)
                  rintro _ w430 ⟨b435, c436, rfl, ho437, he434⟩ a431 hE432; clear hE428
                  have hf438 := CloseFrame_len fp0 fp1 flag
                  have hS433 := St.own hS422 he434 ho437; clear hS422
                  refine q_step (v := .tuple #[.agg #[.int .i64 (((F_CloseFrame fp0 fp1 flag).1).1), .slice b435 ((((F_CloseFrame fp0 fp1 flag).1).2).length) c436], .int .i64 ((F_CloseFrame fp0 fp1 flag).2)]) hE432 (y_move rfl) rfl rfl rfl ?_; intro a439 hE440; clear hE432
                  refine q_step (v := .agg #[.int .i64 (((F_CloseFrame fp0 fp1 flag).1).1), .slice b435 ((((F_CloseFrame fp0 fp1 flag).1).2).length) c436]) hE440 (y_extract rfl rfl) rfl rfl rfl ?_; intro a441 hE442; clear hE440
                  refine q_step (v := .int .i64 ((F_CloseFrame fp0 fp1 flag).2)) hE442 (y_extract rfl rfl) rfl rfl rfl ?_; intro a443 hE444; clear hE442
                  refine l_step hE444 rfl (l_alloc (z := .agg #[.int .i64 0, .slice none 0 0]) (cs := #[.int .i64 0, .slice none 0 0]) hS433 hE444 (fun _ => by kernel_rfl) rfl rfl ?_)
                  intro b445 w446 hS449 he450 a447 hE448; clear hS433 hE444
                  refine l_step hE448 rfl (l_storeS (k := 0) (cs' := #[.int .i64 (((F_CloseFrame fp0 fp1 flag).1).1), .slice b435 ((((F_CloseFrame fp0 fp1 flag).1).2).length) c436]) hS449 hE448 (by kernel_rfl) rfl rfl (by kernel_rfl) rfl rfl ?_)
                  intro w452 hS455 a453 hE454; clear hS449 hE448
                  refine q_step (v := .int .i64 ((F_CloseFrame fp0 fp1 flag).2)) hE454 (y_assign rfl) rfl rfl rfl ?_; intro a457 hE458; clear hE454
                  refine c_nil ?_
                  have hE459 := hE458.sub (L' := [(6, .pointer (some ⟨b69, 0, none⟩)), (7, .int .i64 ((F_s_CloseFrame fp0 fp1 flag).2)), (9, .pointer (some ⟨b128, 0, none⟩)), (12, .int .i64 (1 + ((((F_CloseFrame fp0 fp1 flag).1).2).length : Int))), (14, .pointer (some ⟨b445, 0, none⟩)), (15, .int .i64 ((F_CloseFrame fp0 fp1 flag).2))]) ⟨rfl, rfl, rfl, rfl, rfl, rfl, trivial⟩; clear hE458
                  refine p_tn ?_
                  refine c_seq ?_
                  refine c_cut (fun a' w' => E a' 101 [(9, .pointer (some ⟨b128, 0, none⟩)), (12, .int .i64 (1 + ((((F_CloseFrame fp0 fp1 flag).1).2).length : Int))), (92, .bool ((!(decide (((((F_CloseFrame fp0 fp1 flag).1).1), (((F_CloseFrame fp0 fp1 flag).1).2)) = ((((F_s_CloseFrame fp0 fp1 flag).1).1), (((F_s_CloseFrame fp0 fp1 flag).1).2))))) || (!decide (((F_CloseFrame fp0 fp1 flag).2) = ((F_s_CloseFrame fp0 fp1 flag).2)))))] ∧ St w w' [.own 2 1 b435 ((((F_CloseFrame fp0 fp1 flag).1).2).length) c436 (((F_CloseFrame fp0 fp1 flag).1).2), .blk b445 #[.int .i64 (((F_CloseFrame fp0 fp1 flag).1).1), .slice b435 ((((F_CloseFrame fp0 fp1 flag).1).2).length) c436] 28, .own 2 1 b424 ((fp1).length) c425 fp1, .own 2 1 b118 ((((F_CloseFrame fp0 fp1 flag).1).2).length) c119 (marked (((F_CloseFrame fp0 fp1 flag).1).2).length 1), .own 2 1 b92 ((fp1).length) c93 (marked fp1.length 1), .own 2 1 b215 ((fp1).length) c216 fp1, .blk b128 #[.int .i64 (((F_CloseFrame fp0 fp1 flag).1).1), .slice b118 ((((F_CloseFrame fp0 fp1 flag).1).2).length) c119] 28, .blk b95 #[.int .i64 fp0, .slice b92 ((fp1).length) c93] 28, .own 2 1 b60 ((((F_s_CloseFrame fp0 fp1 flag).1).2).length) c61 (((F_s_CloseFrame fp0 fp1 flag).1).2), .blk b69 #[.int .i64 (((F_s_CloseFrame fp0 fp1 flag).1).1), .slice b60 ((((F_s_CloseFrame fp0 fp1 flag).1).2).length) c61] 28, .own 2 1 b49 ((fp1).length) c50 fp1, .rd 1 fp1A fp1.length fp1C fp1, .blk b2 #[.int .i64 fp0, .slice fp1A fp1.length fp1C] 24]) ?_ ?_
                  ·
                    refine c_reg ?_
                    refine q_step (v := .agg #[.int .i64 (((F_CloseFrame fp0 fp1 flag).1).1), .slice b435 ((((F_CloseFrame fp0 fp1 flag).1).2).length) c436]) hE459 (y_loadS Try.underlying28 rfl (by kernel_rfl) rfl (St.row (i := 0) hS455 rfl)) rfl rfl rfl ?_; intro a460 hE461; clear hE459
                    refine q_step (v := .agg #[.int .i64 (((F_s_CloseFrame fp0 fp1 flag).1).1), .slice b60 ((((F_s_CloseFrame fp0 fp1 flag).1).2).length) c61]) hE461 (y_loadS Try.underlying28 rfl (by kernel_rfl) rfl (St.row (i := 9) hS455 rfl)) rfl rfl rfl ?_; intro a462 hE463; clear hE461
                    refine l_step hE463 rfl (l_call (f := 20) (argv := [.agg #[.int .i64 (((F_CloseFrame fp0 fp1 flag).1).1), .slice b435 ((((F_CloseFrame fp0 fp1 flag).1).2).length) c436], .agg #[.int .i64 (((F_s_CloseFrame fp0 fp1 flag).1).1), .slice b60 ((((F_s_CloseFrame fp0 fp1 flag).1).2).length) c61]]) hE463 (fun _ => cf_l_eqFrame _ _) rfl rfl (d_l_eqFrame (((F_CloseFrame fp0 fp1 flag).1).1) b435 ((((F_CloseFrame fp0 fp1 flag).1).2).length) c436 (((F_CloseFrame fp0 fp1 flag).1).2) (((F_s_CloseFrame fp0 fp1 flag).1).1) b60 ((((F_s_CloseFrame fp0 fp1 flag).1).2).length) c61 (((F_s_CloseFrame fp0 fp1 flag).1).2) w452 (St.rdO (i := 1) hS455 rfl) (St.rdO (i := 8) hS455 rfl)) ?_)
                    rintro _ w465 ⟨rfl, he469⟩ a466 hE467; clear hE463
                    have hS468 := St.go hS455 he469; clear hS455
                    refine q_step (v := .bool (!(decide (((((F_CloseFrame fp0 fp1 flag).1).1), (((F_CloseFrame fp0 fp1 flag).1).2)) = ((((F_s_CloseFrame fp0 fp1 flag).1).1), (((F_s_CloseFrame fp0 fp1 flag).1).2)))))) hE467 (y_not rfl) rfl rfl rfl ?_; intro a470 hE471; clear hE467
                    refine q_step (v := .bool (!(decide (((((F_CloseFrame fp0 fp1 flag).1).1), (((F_CloseFrame fp0 fp1 flag).1).2)) = ((((F_s_CloseFrame fp0 fp1 flag).1).1), (((F_s_CloseFrame fp0 fp1 flag).1).2)))))) hE471 (y_move rfl) rfl rfl rfl ?_; intro a472 hE473; clear hE471
                    rcases Bool.eq_false_or_eq_true (!(decide (((((F_CloseFrame fp0 fp1 flag).1).1), (((F_CloseFrame fp0 fp1 flag).1).2)) = ((((F_s_CloseFrame fp0 fp1 flag).1).1), (((F_s_CloseFrame fp0 fp1 flag).1).2))))) with hb474 | hb474
                    ·
                      have hE475 := hE473; rw [hb474] at hE475; clear hE473
                      have ht476 := bn_t hb474
                      have hp477 := of_decide_eq_false ht476
                      refine q_skip hE475 rfl rfl rfl ?_; intro a478 hE479; clear hE475
                      refine q_skip hE479 rfl rfl rfl ?_; intro a480 hE481; clear hE479
                      refine q_skip hE481 rfl rfl rfl ?_; intro a482 hE483; clear hE481
                      refine q_step (v := .bool true) hE483 (y_pick (b := true) rfl rfl) rfl rfl rfl ?_; intro a484 hE485; clear hE483
                      refine c_nil ?_
                      have hE486 := hE485.sub (L' := [(9, .pointer (some ⟨b128, 0, none⟩)), (12, .int .i64 (1 + ((((F_CloseFrame fp0 fp1 flag).1).2).length : Int))), (92, .bool true)]) ⟨rfl, rfl, rfl, trivial⟩; clear hE485
                      refine p_tn ?_
                      have hE487 := hE486.sub (L' := [(9, .pointer (some ⟨b128, 0, none⟩)), (12, .int .i64 (1 + ((((F_CloseFrame fp0 fp1 flag).1).2).length : Int))), (92, .bool true)]) ⟨rfl, rfl, rfl, trivial⟩
                      have hS488 := (St.pick (Γ' := [.own 2 1 b435 ((((F_CloseFrame fp0 fp1 flag).1).2).length) c436 (((F_CloseFrame fp0 fp1 flag).1).2), .blk b445 #[.int .i64 (((F_CloseFrame fp0 fp1 flag).1).1), .slice b435 ((((F_CloseFrame fp0 fp1 flag).1).2).length) c436] 28, .own 2 1 b424 ((fp1).length) c425 fp1, .own 2 1 b118 ((((F_CloseFrame fp0 fp1 flag).1).2).length) c119 (marked (((F_CloseFrame fp0 fp1 flag).1).2).length 1), .own 2 1 b92 ((fp1).length) c93 (marked fp1.length 1), .own 2 1 b215 ((fp1).length) c216 fp1, .blk b128 #[.int .i64 (((F_CloseFrame fp0 fp1 flag).1).1), .slice b118 ((((F_CloseFrame fp0 fp1 flag).1).2).length) c119] 28, .blk b95 #[.int .i64 fp0, .slice b92 ((fp1).length) c93] 28, .own 2 1 b60 ((((F_s_CloseFrame fp0 fp1 flag).1).2).length) c61 (((F_s_CloseFrame fp0 fp1 flag).1).2), .blk b69 #[.int .i64 (((F_s_CloseFrame fp0 fp1 flag).1).1), .slice b60 ((((F_s_CloseFrame fp0 fp1 flag).1).2).length) c61] 28, .own 2 1 b49 ((fp1).length) c50 fp1, .rd 1 fp1A fp1.length fp1C fp1, .blk b2 #[.int .i64 fp0, .slice fp1A fp1.length fp1C] 24]) hS468 [1, 0, 2, 3, 4, 5, 6, 7, 8, 9, 10, 11, 12] (by decide) rfl)
                      exact ⟨(by rw [hb474]; exact hE487), hS488⟩
                    ·
                      have hE489 := hE473; rw [hb474] at hE489; clear hE473
                      have ht490 := bn_f hb474
                      have hp491 := of_decide_eq_true ht490
                      refine q_step (v := .int .i64 ((F_CloseFrame fp0 fp1 flag).2)) hE489 (y_move rfl) rfl rfl rfl ?_; intro a492 hE493; clear hE489
                      refine q_step (v := .int .i64 ((F_s_CloseFrame fp0 fp1 flag).2)) hE493 (y_move rfl) rfl rfl rfl ?_; intro a494 hE495; clear hE493
                      refine q_step (v := .bool (!decide (((F_CloseFrame fp0 fp1 flag).2) = ((F_s_CloseFrame fp0 fp1 flag).2)))) hE495 (y_neq rfl rfl) rfl rfl rfl ?_; intro a496 hE497; clear hE495
                      refine q_step (v := .bool (!decide (((F_CloseFrame fp0 fp1 flag).2) = ((F_s_CloseFrame fp0 fp1 flag).2)))) hE497 (y_pick (b := false) rfl rfl) rfl rfl rfl ?_; intro a498 hE499; clear hE497
                      refine c_nil ?_
                      have hE500 := hE499.sub (L' := [(9, .pointer (some ⟨b128, 0, none⟩)), (12, .int .i64 (1 + ((((F_CloseFrame fp0 fp1 flag).1).2).length : Int))), (92, .bool (!decide (((F_CloseFrame fp0 fp1 flag).2) = ((F_s_CloseFrame fp0 fp1 flag).2))))]) ⟨rfl, rfl, rfl, trivial⟩; clear hE499
                      refine p_tn ?_
                      have hE501 := hE500.sub (L' := [(9, .pointer (some ⟨b128, 0, none⟩)), (12, .int .i64 (1 + ((((F_CloseFrame fp0 fp1 flag).1).2).length : Int))), (92, .bool (!decide (((F_CloseFrame fp0 fp1 flag).2) = ((F_s_CloseFrame fp0 fp1 flag).2))))]) ⟨rfl, rfl, rfl, trivial⟩
                      have hS502 := (St.pick (Γ' := [.own 2 1 b435 ((((F_CloseFrame fp0 fp1 flag).1).2).length) c436 (((F_CloseFrame fp0 fp1 flag).1).2), .blk b445 #[.int .i64 (((F_CloseFrame fp0 fp1 flag).1).1), .slice b435 ((((F_CloseFrame fp0 fp1 flag).1).2).length) c436] 28, .own 2 1 b424 ((fp1).length) c425 fp1, .own 2 1 b118 ((((F_CloseFrame fp0 fp1 flag).1).2).length) c119 (marked (((F_CloseFrame fp0 fp1 flag).1).2).length 1), .own 2 1 b92 ((fp1).length) c93 (marked fp1.length 1), .own 2 1 b215 ((fp1).length) c216 fp1, .blk b128 #[.int .i64 (((F_CloseFrame fp0 fp1 flag).1).1), .slice b118 ((((F_CloseFrame fp0 fp1 flag).1).2).length) c119] 28, .blk b95 #[.int .i64 fp0, .slice b92 ((fp1).length) c93] 28, .own 2 1 b60 ((((F_s_CloseFrame fp0 fp1 flag).1).2).length) c61 (((F_s_CloseFrame fp0 fp1 flag).1).2), .blk b69 #[.int .i64 (((F_s_CloseFrame fp0 fp1 flag).1).1), .slice b60 ((((F_s_CloseFrame fp0 fp1 flag).1).2).length) c61] 28, .own 2 1 b49 ((fp1).length) c50 fp1, .rd 1 fp1A fp1.length fp1C fp1, .blk b2 #[.int .i64 fp0, .slice fp1A fp1.length fp1C] 24]) hS468 [1, 0, 2, 3, 4, 5, 6, 7, 8, 9, 10, 11, 12] (by decide) rfl)
                      exact ⟨(by rw [hb474]; exact hE501), hS502⟩
                  ·
                    rintro a503 w504 ⟨hE505, hS506⟩; clear hE459 hS455
                    have hE507 := hE505; rw [ht190] at hE507; clear hE505
                    refine c_false hE507 rfl ?_
                    refine wp_skip ?_
                    refine p_tn ?_
                    refine c_seq ?_
                    refine c_reg ?_
                    refine q_step (v := .int .i64 1) hE507 (y_assign rfl) rfl rfl rfl ?_; intro a508 hE509; clear hE507
                    refine c_nil ?_
                    have hE510 := hE509.sub (L' := [(9, .pointer (some ⟨b128, 0, none⟩)), (12, .int .i64 (1 + ((((F_CloseFrame fp0 fp1 flag).1).2).length : Int))), (13, .int .i64 1)]) ⟨rfl, rfl, rfl, trivial⟩; clear hE509
                    refine p_tn ?_
                    refine c_seq ?_
                    refine c_reg ?_
                    refine q_step (v := .agg #[.int .i64 (((F_CloseFrame fp0 fp1 flag).1).1), .slice b118 ((((F_CloseFrame fp0 fp1 flag).1).2).length) c119]) hE510 (y_loadS Try.underlying28 rfl (by kernel_rfl) rfl (St.row (i := 6) hS506 rfl)) rfl rfl rfl ?_; intro a511 hE512; clear hE510
                    refine q_step (v := .int .i64 1) hE512 (y_move rfl) rfl rfl rfl ?_; intro a513 hE514; clear hE512
                    refine l_step hE514 rfl (l_call (f := 33) (argv := [.agg #[.int .i64 (((F_CloseFrame fp0 fp1 flag).1).1), .slice b118 ((((F_CloseFrame fp0 fp1 flag).1).2).length) c119], .int .i64 1]) hE514 (fun _ => cf_l_heldFrame _ _) rfl rfl (c_l_heldFrame (((F_CloseFrame fp0 fp1 flag).1).1) b118 ((((F_CloseFrame fp0 fp1 flag).1).2).length) c119 (marked (((F_CloseFrame fp0 fp1 flag).1).2).length 1) 1 w504 (St.rdO (i := 3) hS506 rfl) (by first | omega | (simp only [marked_len]; omega)) (by first | omega | (simp only [marked_len]; omega)) (by first | omega | (simp only [marked_len]; omega))) ?_)
                    rintro _ w516 ⟨rfl, he520⟩ a517 hE518; clear hE514
                    have hf521 := heldFrame_le (((F_CloseFrame fp0 fp1 flag).1).1) (marked (((F_CloseFrame fp0 fp1 flag).1).2).length 1) 1
                    have hS519 := St.go hS506 he520; clear hS506
                    refine q_step (v := .int .i64 (F_l_heldFrame (((F_CloseFrame fp0 fp1 flag).1).1) (marked (((F_CloseFrame fp0 fp1 flag).1).2).length 1) 1)) hE518 (y_assign rfl) rfl rfl rfl ?_; intro a522 hE523; clear hE518
                    refine c_nil ?_
                    have hE524 := hE523.sub (L' := [(12, .int .i64 (1 + ((((F_CloseFrame fp0 fp1 flag).1).2).length : Int))), (13, .int .i64 (F_l_heldFrame (((F_CloseFrame fp0 fp1 flag).1).1) (marked (((F_CloseFrame fp0 fp1 flag).1).2).length 1) 1))]) ⟨rfl, rfl, trivial⟩; clear hE523
                    refine p_tn ?_
                    refine c_seq ?_
                    refine c_seq ?_
                    refine c_reg ?_
                    refine q_step (v := .int .i64 (F_l_heldFrame (((F_CloseFrame fp0 fp1 flag).1).1) (marked (((F_CloseFrame fp0 fp1 flag).1).2).length 1) 1)) hE524 (y_move rfl) rfl rfl rfl ?_; intro a525 hE526; clear hE524
                    refine q_step (v := .bool (decide ((F_l_heldFrame (((F_CloseFrame fp0 fp1 flag).1).1) (marked (((F_CloseFrame fp0 fp1 flag).1).2).length 1) 1) < 0))) hE526 (y_lss rfl rfl) rfl rfl rfl ?_; intro a527 hE528; clear hE526
                    refine c_nil ?_
                    have hE529 := hE528.sub (L' := [(12, .int .i64 (1 + ((((F_CloseFrame fp0 fp1 flag).1).2).length : Int))), (13, .int .i64 (F_l_heldFrame (((F_CloseFrame fp0 fp1 flag).1).1) (marked (((F_CloseFrame fp0 fp1 flag).1).2).length 1) 1)), (97, .bool (decide ((F_l_heldFrame (((F_CloseFrame fp0 fp1 flag).1).1) (marked (((F_CloseFrame fp0 fp1 flag).1).2).length 1) 1) < 0)))]) ⟨rfl, rfl, rfl, trivial⟩; clear hE528
                    refine p_tn ?_
                    have hE530 := hE529; rw [ht391] at hE530; clear hE529
                    refine c_false hE530 rfl ?_
                    refine wp_skip ?_
                    refine p_tn ?_
                    refine c_seq ?_
                    refine c_seq ?_
                    refine c_reg ?_
                    refine q_step (v := .int .i64 (F_l_heldFrame (((F_CloseFrame fp0 fp1 flag).1).1) (marked (((F_CloseFrame fp0 fp1 flag).1).2).length 1) 1)) hE530 (y_move rfl) rfl rfl rfl ?_; intro a531 hE532; clear hE530
                    refine q_step (v := .int .i64 (1 + ((((F_CloseFrame fp0 fp1 flag).1).2).length : Int))) hE532 (y_move rfl) rfl rfl rfl ?_; intro a533 hE534; clear hE532
                    refine q_step (v := .bool (!decide ((F_l_heldFrame (((F_CloseFrame fp0 fp1 flag).1).1) (marked (((F_CloseFrame fp0 fp1 flag).1).2).length 1) 1) = (1 + ((((F_CloseFrame fp0 fp1 flag).1).2).length : Int))))) hE534 (y_neq rfl rfl) rfl rfl rfl ?_; intro a535 hE536; clear hE534
                    refine c_nil ?_
                    have hE537 := hE536.sub (L' := [(100, .bool (!decide ((F_l_heldFrame (((F_CloseFrame fp0 fp1 flag).1).1) (marked (((F_CloseFrame fp0 fp1 flag).1).2).length 1) 1) = (1 + ((((F_CloseFrame fp0 fp1 flag).1).2).length : Int)))))]) ⟨rfl, trivial⟩; clear hE536
                    refine p_tn ?_
                    have hE538 := hE537; rw [ht406] at hE538; clear hE537
                    refine c_false hE538 rfl ?_
                    refine wp_skip ?_
                    refine p_tn ?_
                    refine c_seq ?_
                    refine c_reg ?_
                    refine q_step (v := .bool true) hE538 (y_assign rfl) rfl rfl rfl ?_; intro a539 hE540; clear hE538
                    refine c_nil ?_
                    have hE541 := hE540.sub (L' := [(4, .bool true)]) ⟨rfl, trivial⟩; clear hE540
                    refine p_tn ?_
                    refine wp_ret ?_
                    have hF : F_l_FnExactCloseFrame fp0 fp1 flag = true := by unfold F_l_FnExactCloseFrame; rw [ht406, ht391, ht337, ht227, ht190, ht32]; first | done | rfl
                    refine c_ret1 hE541 rfl rfl ?_
                    exact ⟨(by rw [hF]; first | done | rfl), hS519.ext⟩

theorem FnExactCloseFrame_true (fp0 : Int) (fp1 : List Int) (flag : Int) : F_l_FnExactCloseFrame fp0 fp1 flag = true := by
  unfold F_l_FnExactCloseFrame
  rw [(CloseFrame_both fp0 fp1 flag).1, heldFrame_eq _ _ _ (by omega)]
  have h1 : decide (1 + (fp1.length : Int) < 0) = false := decide_eq_false (by omega)
  have h2 : decide ((1 : Int) + ((F_s_CloseFrame fp0 fp1 flag).1.2.length : Int) < 0) = false := decide_eq_false (by omega)
  simp [h1, h2]

end Go.Proofs.Ytejfjcjdilbkdaa
