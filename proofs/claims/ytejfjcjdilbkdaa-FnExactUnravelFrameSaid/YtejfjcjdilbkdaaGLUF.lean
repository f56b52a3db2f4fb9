/- GLUF: models and contracts, printed by wip/gen/gen.py -/
import Derived.Test.YtejfjcjdilbkdaaGA
import Derived.Test.YtejfjcjdilbkdaaGUF
set_option linter.unusedVariables false
set_option linter.unusedSimpArgs false
namespace Go.Proofs.Ytejfjcjdilbkdaa
open Go.RowKit

def F_l_FnExactUnravelFrame (fp0 : Int) (fp1 : List Int) (wq : Int) (kq : Int) : Bool :=
  bif (decide ((F_l_szFrame fp0 fp1 1048576) < 0)) then true else (bif ((!(decide (((((F_UnravelFrame fp0 fp1 wq kq).1).1), (((F_UnravelFrame fp0 fp1 wq kq).1).2)) = ((((F_s_UnravelFrame fp0 fp1 wq kq).1).1), (((F_s_UnravelFrame fp0 fp1 wq kq).1).2))))) || ((!(decide (((F_UnravelFrame fp0 fp1 wq kq).2.1) = ((F_s_UnravelFrame fp0 fp1 wq kq).2.1)))) || (!decide (((F_UnravelFrame fp0 fp1 wq kq).2.2) = ((F_s_UnravelFrame fp0 fp1 wq kq).2.2))))) then false else (bif (!(decide ((fp0, fp1) = (fp0, fp1)))) then false else (bif ((decide ((1 + (fp1.length : Int)) < 0)) || ((!(decide (((((F_UnravelFrame fp0 fp1 wq kq).1).1), (((F_UnravelFrame fp0 fp1 wq kq).1).2)) = ((((F_s_UnravelFrame fp0 fp1 wq kq).1).1), (((F_s_UnravelFrame fp0 fp1 wq kq).1).2))))) || ((!(decide (((F_UnravelFrame fp0 fp1 wq kq).2.1) = ((F_s_UnravelFrame fp0 fp1 wq kq).2.1)))) || (!decide (((F_UnravelFrame fp0 fp1 wq kq).2.2) = ((F_s_UnravelFrame fp0 fp1 wq kq).2.2)))))) then false else (bif (decide ((F_l_heldFrame (((F_UnravelFrame fp0 fp1 wq kq).1).1) (marked (((F_UnravelFrame fp0 fp1 wq kq).1).2).length 1) 1) < 0)) then false else (bif (decide ((F_l_heldInt64S (marked ((F_UnravelFrame fp0 fp1 wq kq).2.1).length (1 + ((((F_UnravelFrame fp0 fp1 wq kq).1).2).length : Int))) (F_l_heldFrame (((F_UnravelFrame fp0 fp1 wq kq).1).1) (marked (((F_UnravelFrame fp0 fp1 wq kq).1).2).length 1) 1)) < 0)) then false else (bif (!decide ((F_l_heldInt64S (marked ((F_UnravelFrame fp0 fp1 wq kq).2.1).length (1 + ((((F_UnravelFrame fp0 fp1 wq kq).1).2).length : Int))) (F_l_heldFrame (((F_UnravelFrame fp0 fp1 wq kq).1).1) (marked (((F_UnravelFrame fp0 fp1 wq kq).1).2).length 1) 1)) = ((1 + ((((F_UnravelFrame fp0 fp1 wq kq).1).2).length : Int)) + (((F_UnravelFrame fp0 fp1 wq kq).2.1).length : Int)))) then false else true))))))
theorem cf_l_FnExactUnravelFrame (args : Array Value) (w : World) : (callFunc 10 args).run Try.prog w = .ok (.enter 10 args) w := by kernel_rfl
set_option maxRecDepth 100000 in
theorem c_l_FnExactUnravelFrame (fp0 : Int) (fp1A : Option Addr) (fp1N fp1C : Nat) (fp1 : List Int) (wq : Int) (kq : Int) (w : World) (fp1R : RdS w 1 fp1A fp1N fp1C fp1) :
    Calls Try.prog 10 #[.agg #[.int .i64 fp0, .slice fp1A fp1N fp1C], .int .i64 wq, .int .i64 kq] w (Ret fun v w' => v = .bool (F_l_FnExactUnravelFrame fp0 fp1 wq kq) ∧ Ext w w') := by
  obtain rfl : fp1N = fp1.length := fp1R.len1.symm
  have fp1Le := fp1R.le
  have hS := St.nil w
  have hS1 := St.rd0 hS rfl fp1R; clear hS
  refine enter (args := [.agg #[.int .i64 fp0, .slice fp1A fp1.length fp1C], .int .i64 wq, .int .i64 kq]) Try.func10 rfl rfl ?_
  rw [Try.ntmps10]; intro a hE
  have hE := hE.sub (L' := [(0, .agg #[.int .i64 fp0, .slice fp1A fp1.length fp1C]), (1, .int .i64 wq), (2, .int .i64 kq)]) ⟨rfl, rfl, rfl, trivial⟩
  refine c_seq ?_
  refine c_reg ?_
  refine l_step hE rfl (l_box (v := .agg #[.int .i64 fp0, .slice fp1A fp1.length fp1C]) (cs := #[.int .i64 fp0, .slice fp1A fp1.length fp1C]) hS1 hE rfl rfl rfl ?_)
  intro b2 w3 hS6 he7 a4 hE5; clear hS1 hE
  refine q_step (v := .bool false) hE5 (y_assign rfl) rfl rfl rfl ?_; intro a8 hE9; clear hE5
  refine c_nil ?_
  have hE10 := hE9.sub (L' := [(1, .int .i64 wq), (2, .int .i64 kq), (3, .pointer (some ⟨b2, 0, none⟩))]) ⟨rfl, rfl, rfl, trivial⟩; clear hE9
  refine p_tn ?_
  refine c_seq ?_
  refine c_reg ?_
  refine q_step (v := .int .i64 1048576) hE10 (y_assign rfl) rfl rfl rfl ?_; intro a11 hE12; clear hE10
  refine c_nil ?_
  have hE13 := hE12.sub (L' := [(1, .int .i64 wq), (2, .int .i64 kq), (3, .pointer (some ⟨b2, 0, none⟩)), (7, .int .i64 1048576)]) ⟨rfl, rfl, rfl, rfl, trivial⟩; clear hE12
  refine p_tn ?_
  refine c_seq ?_
  refine c_reg ?_
  refine q_step (v := .agg #[.int .i64 fp0, .slice fp1A fp1.length fp1C]) hE13 (y_loadS Try.underlying24 rfl (by kernel_rfl) rfl (St.row (i := 0) hS6 rfl)) rfl rfl rfl ?_; intro a14 hE15; clear hE13
  refine q_step (v := .int .i64 1048576) hE15 (y_move rfl) rfl rfl rfl ?_; intro a16 hE17; clear hE15
  refine l_step hE17 rfl (l_call (f := 15) (argv := [.agg #[.int .i64 fp0, .slice fp1A fp1.length fp1C], .int .i64 1048576]) hE17 (fun _ => cf_l_szFrame _ _) rfl rfl (c_l_szFrame fp0 fp1A fp1.length fp1C fp1 1048576 w3 (St.rdR (i := 1) hS6 rfl) (by first | omega | (simp only [marked_len]; omega) | (simp only [marked_len] at *; omega)) (by first | omega | (simp only [marked_len]; omega) | (simp only [marked_len] at *; omega))) ?_)
  rintro _ w19 ⟨rfl, he23⟩ a20 hE21; clear hE17
  have hS22 := St.go hS6 he23; clear hS6
  refine q_step (v := .int .i64 (F_l_szFrame fp0 fp1 1048576)) hE21 (y_assign rfl) rfl rfl rfl ?_; intro a24 hE25; clear hE21
  refine c_nil ?_
  have hE26 := hE25.sub (L' := [(1, .int .i64 wq), (2, .int .i64 kq), (3, .pointer (some ⟨b2, 0, none⟩)), (7, .int .i64 (F_l_szFrame fp0 fp1 1048576))]) ⟨rfl, rfl, rfl, rfl, trivial⟩; clear hE25
  refine p_tn ?_
  refine c_seq ?_
  refine c_seq ?_
  refine c_reg ?_
  refine q_step (v := .int .i64 (F_l_szFrame fp0 fp1 1048576)) hE26 (y_move rfl) rfl rfl rfl ?_; intro a27 hE28; clear hE26
  refine q_step (v := .bool (decide ((F_l_szFrame fp0 fp1 1048576) < 0))) hE28 (y_lss rfl rfl) rfl rfl rfl ?_; intro a29 hE30; clear hE28
  refine c_nil ?_
  have hE31 := hE30.sub (L' := [(1, .int .i64 wq), (2, .int .i64 kq), (3, .pointer (some ⟨b2, 0, none⟩)), (25, .bool (decide ((F_l_szFrame fp0 fp1 1048576) < 0)))]) ⟨rfl, rfl, rfl, rfl, trivial⟩; clear hE30
  refine p_tn ?_
  refine c_cond hE31 rfl (fun ht32 => ?_) (fun ht32 => ?_)
  ·
    have hp33 := of_decide_eq_true ht32
    have hE34 := hE31; rw [ht32] at hE34; clear hE31
    refine c_seq ?_
    refine c_reg ?_
    refine q_step (v := .bool true) hE34 (y_assign rfl) rfl rfl rfl ?_; intro a35 hE36; clear hE34
    refine c_nil ?_
    have hE37 := hE36.sub (L' := [(6, .bool true)]) ⟨rfl, trivial⟩; clear hE36
    refine p_tn ?_
    refine wp_ret ?_
    refine p_tr ?_
    have hF : F_l_FnExactUnravelFrame fp0 fp1 wq kq = true := by unfold F_l_FnExactUnravelFrame; rw [ht32]; first | done | rfl
    refine c_ret1 hE37 rfl rfl ?_
    exact ⟨(by rw [hF]; first | done | rfl), hS22.ext⟩
  ·
    have hp38 := of_decide_eq_false ht32
    have hq39 := szFrame_bound hp38
    have hE40 := hE31; rw [ht32] at hE40; clear hE31
    refine wp_skip ?_
    refine p_tn ?_
    refine c_seq ?_
    refine c_reg ?_
    refine q_step (v := .agg #[.int .i64 fp0, .slice fp1A fp1.length fp1C]) hE40 (y_loadS Try.underlying24 rfl (by kernel_rfl) rfl (St.row (i := 0) hS22 rfl)) rfl rfl rfl ?_; intro a41 hE42; clear hE40
    refine l_step hE42 rfl (l_call (f := 17) (argv := [.agg #[.int .i64 fp0, .slice fp1A fp1.length fp1C]]) hE42 (fun _ => cf_l_toFrame _ _) rfl rfl (d_l_toFrame fp0 fp1A fp1.length fp1C fp1 w19 (St.rdR (i := 1) hS22 rfl) (by first | omega | (simp only [marked_len]; omega) | (simp only [marked_len] at *; omega))) ?_)
    rintro _ w44 ⟨b49, c50, rfl, ho51, he48⟩ a45 hE46; clear hE42
    have hS47 := St.own hS22 he48 ho51; clear hS22
    refine q_step (v := .int .i64 wq) hE46 (y_move rfl) rfl rfl rfl ?_; intro a52 hE53; clear hE46
    refine q_step (v := .int .i64 kq) hE53 (y_move rfl) rfl rfl rfl ?_; intro a54 hE55; clear hE53
    refine l_step hE55 rfl (l_call (f := 48) (argv := [.agg #[.int .i64 fp0, .slice b49 ((fp1).length) c50], .int .i64 wq, .int .i64 kq]) hE55 (fun _ => cf_s_UnravelFrame _ _) rfl rfl (c_s_UnravelFrame fp0 b49 ((fp1).length) c50 fp1 wq kq w44 (St.rdO (i := 0) hS47 rfl)) ?_)
    rintro _ w57 ⟨b62, c63, b64, c65, rfl, ho66, he61⟩ a58 hE59; clear hE55
    have hS60 := St.push2 hS47 he61 ho66; clear hS47
    refine q_step (v := .tuple #[.agg #[.int .i64 (((F_s_UnravelFrame fp0 fp1 wq kq).1).1), .slice b62 ((((F_s_UnravelFrame fp0 fp1 wq kq).1).2).length) c63], .slice b64 (((F_s_UnravelFrame fp0 fp1 wq kq).2.1).length) c65, .int .i64 ((F_s_UnravelFrame fp0 fp1 wq kq).2.2)]) hE59 (y_move rfl) rfl rfl rfl ?_; intro a68 hE69; clear hE59
    refine q_step (v := .agg #[.int .i64 (((F_s_UnravelFrame fp0 fp1 wq kq).1).1), .slice b62 ((((F_s_UnravelFrame fp0 fp1 wq kq).1).2).length) c63]) hE69 (y_extract rfl rfl) rfl rfl rfl ?_; intro a70 hE71; clear hE69
    refine q_step (v := .slice b64 (((F_s_UnravelFrame fp0 fp1 wq kq).2.1).length) c65) hE71 (y_extract rfl rfl) rfl rfl rfl ?_; intro a72 hE73; clear hE71
    refine q_step (v := .int .i64 ((F_s_UnravelFrame fp0 fp1 wq kq).2.2)) hE73 (y_extract rfl rfl) rfl rfl rfl ?_; intro a74 hE75; clear hE73
    refine l_step hE75 rfl (l_alloc (z := .agg #[.int .i64 0, .slice none 0 0]) (cs := #[.int .i64 0, .slice none 0 0]) hS60 hE75 (fun _ => by kernel_rfl) rfl rfl ?_)
    intro b76 w77 hS80 he81 a78 hE79; clear hS60 hE75
    refine l_step hE79 rfl (l_storeS (k := 0) (cs' := #[.int .i64 (((F_s_UnravelFrame fp0 fp1 wq kq).1).1), .slice b62 ((((F_s_UnravelFrame fp0 fp1 wq kq).1).2).length) c63]) hS80 hE79 (by kernel_rfl) rfl rfl (by kernel_rfl) rfl rfl ?_)
    intro w83 hS86 a84 hE85; clear hS80 hE79
    refine q_step (v := .slice b64 (((F_s_UnravelFrame fp0 fp1 wq kq).2.1).length) c65) hE85 (y_assign rfl) rfl rfl rfl ?_; intro a88 hE89; clear hE85
    refine q_step (v := .int .i64 ((F_s_UnravelFrame fp0 fp1 wq kq).2.2)) hE89 (y_assign rfl) rfl rfl rfl ?_; intro a90 hE91; clear hE89
    refine c_nil ?_
    have hE92 := hE91.sub (L' := [(1, .int .i64 wq), (2, .int .i64 kq), (3, .pointer (some ⟨b2, 0, none⟩)), (8, .pointer (some ⟨b76, 0, none⟩)), (9, .slice b64 (((F_s_UnravelFrame fp0 fp1 wq kq).2.1).length) c65), (10, .int .i64 ((F_s_UnravelFrame fp0 fp1 wq kq).2.2))]) ⟨rfl, rfl, rfl, rfl, rfl, rfl, trivial⟩; clear hE91
    refine p_tn ?_
    refine c_seq ?_
    refine c_reg ?_
    refine q_step (v := .agg #[.int .i64 fp0, .slice fp1A fp1.length fp1C]) hE92 (y_loadS Try.underlying24 rfl (by kernel_rfl) rfl (St.row (i := 4) hS86 rfl)) rfl rfl rfl ?_; intro a93 hE94; clear hE92
    refine l_step hE94 rfl (l_call (f := 17) (argv := [.agg #[.int .i64 fp0, .slice fp1A fp1.length fp1C]]) hE94 (fun _ => cf_l_toFrame _ _) rfl rfl (d_l_toFrame fp0 fp1A fp1.length fp1C fp1 w83 (St.rdR (i := 5) hS86 rfl) (by first | omega | (simp only [marked_len]; omega) | (simp only [marked_len] at *; omega))) ?_)
    rintro _ w96 ⟨b101, c102, rfl, ho103, he100⟩ a97 hE98; clear hE94
    have hS99 := St.own hS86 he100 ho103; clear hS86
    refine l_step hE98 rfl (l_alloc (z := .agg #[.int .i64 0, .slice none 0 0]) (cs := #[.int .i64 0, .slice none 0 0]) hS99 hE98 (fun _ => by kernel_rfl) rfl rfl ?_)
    intro b104 w105 hS108 he109 a106 hE107; clear hS99 hE98
    refine l_step hE107 rfl (l_storeS (k := 0) (cs' := #[.int .i64 fp0, .slice b101 ((fp1).length) c102]) hS108 hE107 (by kernel_rfl) rfl rfl (by kernel_rfl) rfl rfl ?_)
    intro w111 hS114 a112 hE113; clear hS108 hE107
    refine c_nil ?_
    have hE116 := hE113.sub (L' := [(1, .int .i64 wq), (2, .int .i64 kq), (3, .pointer (some ⟨b2, 0, none⟩)), (8, .pointer (some ⟨b76, 0, none⟩)), (9, .slice b64 (((F_s_UnravelFrame fp0 fp1 wq kq).2.1).length) c65), (10, .int .i64 ((F_s_UnravelFrame fp0 fp1 wq kq).2.2)), (11, .pointer (some ⟨b104, 0, none⟩))]) ⟨rfl, rfl, rfl, rfl, rfl, rfl, rfl, trivial⟩; clear hE113
    refine p_tn ?_
    refine c_seq ?_
    refine c_reg ?_
    refine q_step (v := .agg #[.int .i64 fp0, .slice b101 ((fp1).length) c102]) hE116 (y_loadS Try.underlying28 rfl (by kernel_rfl) rfl (St.row (i := 0) hS114 rfl)) rfl rfl rfl ?_; intro a117 hE118; clear hE116
    refine q_step (v := .int .i64 wq) hE118 (y_move rfl) rfl rfl rfl ?_; intro a119 hE120; clear hE118
    refine q_step (v := .int .i64 kq) hE120 (y_move rfl) rfl rfl rfl ?_; intro a121 hE122; clear hE120
    refine l_step hE122 rfl (l_call (f := 49) (argv := [.agg #[.int .i64 fp0, .slice b101 ((fp1).length) c102], .int .i64 wq, .int .i64 kq]) hE122 (fun _ => cf_UnravelFrame _ _) rfl rfl (c_UnravelFrame fp0 b101 ((fp1).length) c102 fp1 wq kq w111 (St.rdO (i := 1) hS114 rfl)) ?_)
    rintro _ w124 ⟨b129, c130, b131, c132, rfl, ho133, he128⟩ a125 hE126; clear hE122
    have hf135 := UnravelFrame_len fp0 fp1 wq kq
    have hS127 := St.push2 hS114 he128 ho133; clear hS114
    refine q_step (v := .tuple #[.agg #[.int .i64 (((F_UnravelFrame fp0 fp1 wq kq).1).1), .slice b129 ((((F_UnravelFrame fp0 fp1 wq kq).1).2).length) c130], .slice b131 (((F_UnravelFrame fp0 fp1 wq kq).2.1).length) c132, .int .i64 ((F_UnravelFrame fp0 fp1 wq kq).2.2)]) hE126 (y_move rfl) rfl rfl rfl ?_; intro a136 hE137; clear hE126
    refine q_step (v := .agg #[.int .i64 (((F_UnravelFrame fp0 fp1 wq kq).1).1), .slice b129 ((((F_UnravelFrame fp0 fp1 wq kq).1).2).length) c130]) hE137 (y_extract rfl rfl) rfl rfl rfl ?_; intro a138 hE139; clear hE137
    refine q_step (v := .slice b131 (((F_UnravelFrame fp0 fp1 wq kq).2.1).length) c132) hE139 (y_extract rfl rfl) rfl rfl rfl ?_; intro a140 hE141; clear hE139
    refine q_step (v := .int .i64 ((F_UnravelFrame fp0 fp1 wq kq).2.2)) hE141 (y_extract rfl rfl) rfl rfl rfl ?_; intro a142 hE143; clear hE141
    refine l_step hE143 rfl (l_alloc (z := .agg #[.int .i64 0, .slice none 0 0]) (cs := #[.int .i64 0, .slice none 0 0]) hS127 hE143 (fun _ => by kernel_rfl) rfl rfl ?_)
    intro b144 w145 hS148 he149 a146 hE147; clear hS127 hE143
    refine l_step hE147 rfl (l_storeS (k := 0) (cs' := #[.int .i64 (((F_UnravelFrame fp0 fp1 wq kq).1).1), .slice b129 ((((F_UnravelFrame fp0 fp1 wq kq).1).2).length) c130]) hS148 hE147 (by kernel_rfl) rfl rfl (by kernel_rfl) rfl rfl ?_)
    intro w151 hS154 a152 hE153; clear hS148 hE147
    refine q_step (v := .slice b131 (((F_UnravelFrame fp0 fp1 wq kq).2.1).length) c132) hE153 (y_assign rfl) rfl rfl rfl ?_; intro a156 hE157; clear hE153
    refine q_step (v := .int .i64 ((F_UnravelFrame fp0 fp1 wq kq).2.2)) hE157 (y_assign rfl) rfl rfl rfl ?_; intro a158 hE159; clear hE157
    refine c_nil ?_
    have hE160 := hE159.sub (L' := [(1, .int .i64 wq), (2, .int .i64 kq), (3, .pointer (some ⟨b2, 0, none⟩)), (8, .pointer (some ⟨b76, 0, none⟩)), (9, .slice b64 (((F_s_UnravelFrame fp0 fp1 wq kq).2.1).length) c65), (10, .int .i64 ((F_s_UnravelFrame fp0 fp1 wq kq).2.2)), (11, .pointer (some ⟨b104, 0, none⟩)), (12, .pointer (some ⟨b144, 0, none⟩)), (13, .slice b131 (((F_UnravelFrame fp0 fp1 wq kq).2.1).length) c132), (14, .int .i64 ((F_UnravelFrame fp0 fp1 wq kq).2.2))]) ⟨rfl, rfl, rfl, rfl, rfl, rfl, rfl, rfl, rfl, rfl, trivial⟩; clear hE159
    refine p_tn ?_
    refine c_seq ?_
    refine c_cut (fun a' w' => E a' 143 [(1, .int .i64 wq), (2, .int .i64 kq), (3, .pointer (some ⟨b2, 0, none⟩)), (8, .pointer (some ⟨b76, 0, none⟩)), (9, .slice b64 (((F_s_UnravelFrame fp0 fp1 wq kq).2.1).length) c65), (10, .int .i64 ((F_s_UnravelFrame fp0 fp1 wq kq).2.2)), (11, .pointer (some ⟨b104, 0, none⟩)), (12, .pointer (some ⟨b144, 0, none⟩)), (13, .slice b131 (((F_UnravelFrame fp0 fp1 wq kq).2.1).length) c132), (14, .int .i64 ((F_UnravelFrame fp0 fp1 wq kq).2.2)), (59, .bool ((!(decide (((((F_UnravelFrame fp0 fp1 wq kq).1).1), (((F_UnravelFrame fp0 fp1 wq kq).1).2)) = ((((F_s_UnravelFrame fp0 fp1 wq kq).1).1), (((F_s_UnravelFrame fp0 fp1 wq kq).1).2))))) || ((!(decide (((F_UnravelFrame fp0 fp1 wq kq).2.1) = ((F_s_UnravelFrame fp0 fp1 wq kq).2.1)))) || (!decide (((F_UnravelFrame fp0 fp1 wq kq).2.2) = ((F_s_UnravelFrame fp0 fp1 wq kq).2.2))))))] ∧ St w w' [.own 2 1 b129 ((((F_UnravelFrame fp0 fp1 wq kq).1).2).length) c130 (((F_UnravelFrame fp0 fp1 wq kq).1).2), .blk b144 #[.int .i64 (((F_UnravelFrame fp0 fp1 wq kq).1).1), .slice b129 ((((F_UnravelFrame fp0 fp1 wq kq).1).2).length) c130] 28, .own 2 1 b131 (((F_UnravelFrame fp0 fp1 wq kq).2.1).length) c132 ((F_UnravelFrame fp0 fp1 wq kq).2.1), .own 2 1 b101 ((fp1).length) c102 fp1, .blk b104 #[.int .i64 fp0, .slice b101 ((fp1).length) c102] 28, .own 2 1 b62 ((((F_s_UnravelFrame fp0 fp1 wq kq).1).2).length) c63 (((F_s_UnravelFrame fp0 fp1 wq kq).1).2), .blk b76 #[.int .i64 (((F_s_UnravelFrame fp0 fp1 wq kq).1).1), .slice b62 ((((F_s_UnravelFrame fp0 fp1 wq kq).1).2).length) c63] 28, .own 2 1 b64 (((F_s_UnravelFrame fp0 fp1 wq kq).2.1).length) c65 ((F_s_UnravelFrame fp0 fp1 wq kq).2.1), .own 2 1 b49 ((fp1).length) c50 fp1, .rd 1 fp1A fp1.length fp1C fp1, .blk b2 #[.int .i64 fp0, .slice fp1A fp1.length fp1C] 24]) ?_ ?_
    ·
      refine c_reg ?_
      refine q_step (v := .agg #[.int .i64 (((F_UnravelFrame fp0 fp1 wq kq).1).1), .slice b129 ((((F_UnravelFrame fp0 fp1 wq kq).1).2).length) c130]) hE160 (y_loadS Try.underlying28 rfl (by kernel_rfl) rfl (St.row (i := 0) hS154 rfl)) rfl rfl rfl ?_; intro a161 hE162; clear hE160
      refine q_step (v := .agg #[.int .i64 (((F_s_UnravelFrame fp0 fp1 wq kq).1).1), .slice b62 ((((F_s_UnravelFrame fp0 fp1 wq kq).1).2).length) c63]) hE162 (y_loadS Try.underlying28 rfl (by kernel_rfl) rfl (St.row (i := 5) hS154 rfl)) rfl rfl rfl ?_; intro a163 hE164; clear hE162
      refine l_step hE164 rfl (l_call (f := 20) (argv := [.agg #[.int .i64 (((F_UnravelFrame fp0 fp1 wq kq).1).1), .slice b129 ((((F_UnravelFrame fp0 fp1 wq kq).1).2).length) c130], .agg #[.int .i64 (((F_s_UnravelFrame fp0 fp1 wq kq).1).1), .slice b62 ((((F_s_UnravelFrame fp0 fp1 wq kq).1).2).length) c63]]) hE164 (fun _ => cf_l_eqFrame _ _) rfl rfl (d_l_eqFrame (((F_UnravelFrame fp0 fp1 wq kq).1).1) b129 ((((F_UnravelFrame fp0 fp1 wq kq).1).2).length) c130 (((F_UnravelFrame fp0 fp1 wq kq).1).2) (((F_s_UnravelFrame fp0 fp1 wq kq).1).1) b62 ((((F_s_UnravelFrame fp0 fp1 wq kq).1).2).length) c63 (((F_s_UnravelFrame fp0 fp1 wq kq).1).2) w151 (St.rdO (i := 1) hS154 rfl) (St.rdO (i := 6) hS154 rfl)) ?_)
      rintro _ w166 ⟨rfl, he170⟩ a167 hE168; clear hE164
      have hS169 := St.go hS154 he170; clear hS154
      refine q_step (v := .bool (!(decide (((((F_UnravelFrame fp0 fp1 wq kq).1).1), (((F_UnravelFrame fp0 fp1 wq kq).1).2)) = ((((F_s_UnravelFrame fp0 fp1 wq kq).1).1), (((F_s_UnravelFrame fp0 fp1 wq kq).1).2)))))) hE168 (y_not rfl) rfl rfl rfl ?_; intro a171 hE172; clear hE168
      refine q_step (v := .bool (!(decide (((((F_UnravelFrame fp0 fp1 wq kq).1).1), (((F_UnravelFrame fp0 fp1 wq kq).1).2)) = ((((F_s_UnravelFrame fp0 fp1 wq kq).1).1), (((F_s_UnravelFrame fp0 fp1 wq kq).1).2)))))) hE172 (y_move rfl) rfl rfl rfl ?_; intro a173 hE174; clear hE172
      rcases Bool.eq_false_or_eq_true (!(decide (((((F_UnravelFrame fp0 fp1 wq kq).1).1), (((F_UnravelFrame fp0 fp1 wq kq).1).2)) = ((((F_s_UnravelFrame fp0 fp1 wq kq).1).1), (((F_s_UnravelFrame fp0 fp1 wq kq).1).2))))) with hb175 | hb175
      ·
        have hE176 := hE174; rw [hb175] at hE176; clear hE174
        have ht177 := bn_t hb175
        have hp178 := of_decide_eq_false ht177
        refine q_skip hE176 rfl rfl rfl ?_; intro a179 hE180; clear hE176
        refine q_skip hE180 rfl rfl rfl ?_; intro a181 hE182; clear hE180
        refine q_skip hE182 rfl rfl rfl ?_; intro a183 hE184; clear hE182
        refine q_skip hE184 rfl rfl rfl ?_; intro a185 hE186; clear hE184
        refine q_step (v := .bool true) hE186 (y_pick (b := true) rfl rfl) rfl rfl rfl ?_; intro a187 hE188; clear hE186
        refine q_step (v := .bool true) hE188 (y_move rfl) rfl rfl rfl ?_; intro a189 hE190; clear hE188
        refine q_skip hE190 rfl rfl rfl ?_; intro a191 hE192; clear hE190
        refine q_skip hE192 rfl rfl rfl ?_; intro a193 hE194; clear hE192
        refine q_skip hE194 rfl rfl rfl ?_; intro a195 hE196; clear hE194
        refine q_step (v := .bool true) hE196 (y_pick (b := true) rfl rfl) rfl rfl rfl ?_; intro a197 hE198; clear hE196
        refine c_nil ?_
        have hE199 := hE198.sub (L' := [(1, .int .i64 wq), (2, .int .i64 kq), (3, .pointer (some ⟨b2, 0, none⟩)), (8, .pointer (some ⟨b76, 0, none⟩)), (9, .slice b64 (((F_s_UnravelFrame fp0 fp1 wq kq).2.1).length) c65), (10, .int .i64 ((F_s_UnravelFrame fp0 fp1 wq kq).2.2)), (11, .pointer (some ⟨b104, 0, none⟩)), (12, .pointer (some ⟨b144, 0, none⟩)), (13, .slice b131 (((F_UnravelFrame fp0 fp1 wq kq).2.1).length) c132), (14, .int .i64 ((F_UnravelFrame fp0 fp1 wq kq).2.2)), (59, .bool true)]) ⟨rfl, rfl, rfl, rfl, rfl, rfl, rfl, rfl, rfl, rfl, rfl, trivial⟩; clear hE198
        refine p_tn ?_
        have hE200 := hE199.sub (L' := [(1, .int .i64 wq), (2, .int .i64 kq), (3, .pointer (some ⟨b2, 0, none⟩)), (8, .pointer (some ⟨b76, 0, none⟩)), (9, .slice b64 (((F_s_UnravelFrame fp0 fp1 wq kq).2.1).length) c65), (10, .int .i64 ((F_s_UnravelFrame fp0 fp1 wq kq).2.2)), (11, .pointer (some ⟨b104, 0, none⟩)), (12, .pointer (some ⟨b144, 0, none⟩)), (13, .slice b131 (((F_UnravelFrame fp0 fp1 wq kq).2.1).length) c132), (14, .int .i64 ((F_UnravelFrame fp0 fp1 wq kq).2.2)), (59, .bool true)]) ⟨rfl, rfl, rfl, rfl, rfl, rfl, rfl, rfl, rfl, rfl, rfl, trivial⟩
        have hS201 := (St.pick (Γ' := [.own 2 1 b129 ((((F_UnravelFrame fp0 fp1 wq kq).1).2).length) c130 (((F_UnravelFrame fp0 fp1 wq kq).1).2), .blk b144 #[.int .i64 (((F_UnravelFrame fp0 fp1 wq kq).1).1), .slice b129 ((((F_UnravelFrame fp0 fp1 wq kq).1).2).length) c130] 28, .own 2 1 b131 (((F_UnravelFrame fp0 fp1 wq kq).2.1).length) c132 ((F_UnravelFrame fp0 fp1 wq kq).2.1), .own 2 1 b101 ((fp1).length) c102 fp1, .blk b104 #[.int .i64 fp0, .slice b101 ((fp1).length) c102] 28, .own 2 1 b62 ((((F_s_UnravelFrame fp0 fp1 wq kq).1).2).length) c63 (((F_s_UnravelFrame fp0 fp1 wq kq).1).2), .blk b76 #[.int .i64 (((F_s_UnravelFrame fp0 fp1 wq kq).1).1), .slice b62 ((((F_s_UnravelFrame fp0 fp1 wq kq).1).2).length) c63] 28, .own 2 1 b64 (((F_s_UnravelFrame fp0 fp1 wq kq).2.1).length) c65 ((F_s_UnravelFrame fp0 fp1 wq kq).2.1), .own 2 1 b49 ((fp1).length) c50 fp1, .rd 1 fp1A fp1.length fp1C fp1, .blk b2 #[.int .i64 fp0, .slice fp1A fp1.length fp1C] 24]) hS169 [1, 0, 2, 4, 3, 6, 5, 7, 8, 10, 9] (by decide) rfl)
        exact ⟨(by rw [hb175]; exact hE200), hS201⟩
      ·
        have hE202 := hE174; rw [hb175] at hE202; clear hE174
        have ht203 := bn_f hb175
        have hp204 := of_decide_eq_true ht203
        refine q_step (v := .slice b131 (((F_UnravelFrame fp0 fp1 wq kq).2.1).length) c132) hE202 (y_move rfl) rfl rfl rfl ?_; intro a205 hE206; clear hE202
        refine q_step (v := .slice b64 (((F_s_UnravelFrame fp0 fp1 wq kq).2.1).length) c65) hE206 (y_move rfl) rfl rfl rfl ?_; intro a207 hE208; clear hE206
        refine l_step hE208 rfl (l_call (f := 21) (argv := [.slice b131 (((F_UnravelFrame fp0 fp1 wq kq).2.1).length) c132, .slice b64 (((F_s_UnravelFrame fp0 fp1 wq kq).2.1).length) c65]) hE208 (fun _ => cf_l_eqInt64S _ _) rfl rfl (d_l_eqInt64S b131 (((F_UnravelFrame fp0 fp1 wq kq).2.1).length) c132 ((F_UnravelFrame fp0 fp1 wq kq).2.1) b64 (((F_s_UnravelFrame fp0 fp1 wq kq).2.1).length) c65 ((F_s_UnravelFrame fp0 fp1 wq kq).2.1) w166 (St.rdO (i := 2) hS169 rfl) (St.rdO (i := 7) hS169 rfl)) ?_)
        rintro _ w210 ⟨rfl, he214⟩ a211 hE212; clear hE208
        have hS213 := St.go hS169 he214; clear hS169
        refine q_step (v := .bool (!(decide (((F_UnravelFrame fp0 fp1 wq kq).2.1) = ((F_s_UnravelFrame fp0 fp1 wq kq).2.1))))) hE212 (y_not rfl) rfl rfl rfl ?_; intro a215 hE216; clear hE212
        refine q_step (v := .bool (!(decide (((F_UnravelFrame fp0 fp1 wq kq).2.1) = ((F_s_UnravelFrame fp0 fp1 wq kq).2.1))))) hE216 (y_pick (b := false) rfl rfl) rfl rfl rfl ?_; intro a217 hE218; clear hE216
        refine q_step (v := .bool (!(decide (((F_UnravelFrame fp0 fp1 wq kq).2.1) = ((F_s_UnravelFrame fp0 fp1 wq kq).2.1))))) hE218 (y_move rfl) rfl rfl rfl ?_; intro a219 hE220; clear hE218
        rcases Bool.eq_false_or_eq_true (!(decide (((F_UnravelFrame fp0 fp1 wq kq).2.1) = ((F_s_UnravelFrame fp0 fp1 wq kq).2.1)))) with hb221 | hb221
        ·
          have hE222 := hE220; rw [hb221] at hE222; clear hE220
          have ht223 := bn_t hb221
          have hp224 := of_decide_eq_false ht223
          refine q_skip hE222 rfl rfl rfl ?_; intro a225 hE226; clear hE222
          refine q_skip hE226 rfl rfl rfl ?_; intro a227 hE228; clear hE226
          refine q_skip hE228 rfl rfl rfl ?_; intro a229 hE230; clear hE228
          refine q_step (v := .bool true) hE230 (y_pick (b := true) rfl rfl) rfl rfl rfl ?_; intro a231 hE232; clear hE230
          refine c_nil ?_
          have hE233 := hE232.sub (L' := [(1, .int .i64 wq), (2, .int .i64 kq), (3, .pointer (some ⟨b2, 0, none⟩)), (8, .pointer (some ⟨b76, 0, none⟩)), (9, .slice b64 (((F_s_UnravelFrame fp0 fp1 wq kq).2.1).length) c65), (10, .int .i64 ((F_s_UnravelFrame fp0 fp1 wq kq).2.2)), (11, .pointer (some ⟨b104, 0, none⟩)), (12, .pointer (some ⟨b144, 0, none⟩)), (13, .slice b131 (((F_UnravelFrame fp0 fp1 wq kq).2.1).length) c132), (14, .int .i64 ((F_UnravelFrame fp0 fp1 wq kq).2.2)), (59, .bool true)]) ⟨rfl, rfl, rfl, rfl, rfl, rfl, rfl, rfl, rfl, rfl, rfl, trivial⟩; clear hE232
          refine p_tn ?_
          have hE234 := hE233.sub (L' := [(1, .int .i64 wq), (2, .int .i64 kq), (3, .pointer (some ⟨b2, 0, none⟩)), (8, .pointer (some ⟨b76, 0, none⟩)), (9, .slice b64 (((F_s_UnravelFrame fp0 fp1 wq kq).2.1).length) c65), (10, .int .i64 ((F_s_UnravelFrame fp0 fp1 wq kq).2.2)), (11, .pointer (some ⟨b104, 0, none⟩)), (12, .pointer (some ⟨b144, 0, none⟩)), (13, .slice b131 (((F_UnravelFrame fp0 fp1 wq kq).2.1).length) c132), (14, .int .i64 ((F_UnravelFrame fp0 fp1 wq kq).2.2)), (59, .bool true)]) ⟨rfl, rfl, rfl, rfl, rfl, rfl, rfl, rfl, rfl, rfl, rfl, trivial⟩
          have hS235 := (St.pick (Γ' := [.own 2 1 b129 ((((F_UnravelFrame fp0 fp1 wq kq).1).2).length) c130 (((F_UnravelFrame fp0 fp1 wq kq).1).2), .blk b144 #[.int .i64 (((F_UnravelFrame fp0 fp1 wq kq).1).1), .slice b129 ((((F_UnravelFrame fp0 fp1 wq kq).1).2).length) c130] 28, .own 2 1 b131 (((F_UnravelFrame fp0 fp1 wq kq).2.1).length) c132 ((F_UnravelFrame fp0 fp1 wq kq).2.1), .own 2 1 b101 ((fp1).length) c102 fp1, .blk b104 #[.int .i64 fp0, .slice b101 ((fp1).length) c102] 28, .own 2 1 b62 ((((F_s_UnravelFrame fp0 fp1 wq kq).1).2).length) c63 (((F_s_UnravelFrame fp0 fp1 wq kq).1).2), .blk b76 #[.int .i64 (((F_s_UnravelFrame fp0 fp1 wq kq).1).1), .slice b62 ((((F_s_UnravelFrame fp0 fp1 wq kq).1).2).length) c63] 28, .own 2 1 b64 (((F_s_UnravelFrame fp0 fp1 wq kq).2.1).length) c65 ((F_s_UnravelFrame fp0 fp1 wq kq).2.1), .own 2 1 b49 ((fp1).length) c50 fp1, .rd 1 fp1A fp1.length fp1C fp1, .blk b2 #[.int .i64 fp0, .slice fp1A fp1.length fp1C] 24]) hS213 [1, 0, 2, 4, 3, 6, 5, 7, 8, 10, 9] (by decide) rfl)
          exact ⟨(by rw [hb221, hb175]; exact hE234), hS235⟩
        ·
          have hE236 := hE220; rw [hb221] at hE236; clear hE220
          have ht237 := bn_f hb221
          have hp238 := of_decide_eq_true ht237
          refine q_step (v := .int .i64 ((F_UnravelFrame fp0 fp1 wq kq).2.2)) hE236 (y_move rfl) rfl rfl rfl ?_; intro a239 hE240; clear hE236
          refine q_step (v := .int .i64 ((F_s_UnravelFrame fp0 fp1 wq kq).2.2)) hE240 (y_move rfl) rfl rfl rfl ?_; intro a241 hE242; clear hE240
          refine q_step (v := .bool (!decide (((F_UnravelFrame fp0 fp1 wq kq).2.2) = ((F_s_UnravelFrame fp0 fp1 wq kq).2.2)))) hE242 (y_neq rfl rfl) rfl rfl rfl ?_; intro a243 hE244; clear hE242
          refine q_step (v := .bool (!decide (((F_UnravelFrame fp0 fp1 wq kq).2.2) = ((F_s_UnravelFrame fp0 fp1 wq kq).2.2)))) hE244 (y_pick (b := false) rfl rfl) rfl rfl rfl ?_; intro a245 hE246; clear hE244
          refine c_nil ?_
          have hE247 := hE246.sub (L' := [(1, .int .i64 wq), (2, .int .i64 kq), (3, .pointer (some ⟨b2, 0, none⟩)), (8, .pointer (some ⟨b76, 0, none⟩)), (9, .slice b64 (((F_s_UnravelFrame fp0 fp1 wq kq).2.1).length) c65), (10, .int .i64 ((F_s_UnravelFrame fp0 fp1 wq kq).2.2)), (11, .pointer (some ⟨b104, 0, none⟩)), (12, .pointer (some ⟨b144, 0, none⟩)), (13, .slice b131 (((F_UnravelFrame fp0 fp1 wq kq).2.1).length) c132), (14, .int .i64 ((F_UnravelFrame fp0 fp1 wq kq).2.2)), (59, .bool (!decide (((F_UnravelFrame fp0 fp1 wq kq).2.2) = ((F_s_UnravelFrame fp0 fp1 wq kq).2.2))))]) ⟨rfl, rfl, rfl, rfl, rfl, rfl, rfl, rfl, rfl, rfl, rfl, trivial⟩; clear hE246
          refine p_tn ?_
          have hE248 := hE247.sub (L' := [(1, .int .i64 wq), (2, .int .i64 kq), (3, .pointer (some ⟨b2, 0, none⟩)), (8, .pointer (some ⟨b76, 0, none⟩)), (9, .slice b64 (((F_s_UnravelFrame fp0 fp1 wq kq).2.1).length) c65), (10, .int .i64 ((F_s_UnravelFrame fp0 fp1 wq kq).2.2)), (11, .pointer (some ⟨b104, 0, none⟩)), (12, .pointer (some ⟨b144, 0, none⟩)), (13, .slice b131 (((F_UnravelFrame fp0 fp1 wq kq).2.1).length) c132), (14, .int .i64 ((F_UnravelFrame fp0 fp1 wq kq).2.2)), (59, .bool (!decide (((F_UnravelFrame fp0 fp1 wq kq).2.2) = ((F_s_UnravelFrame fp0 fp1 wq kq).2.2))))]) ⟨rfl, rfl, rfl, rfl, rfl, rfl, rfl, rfl, rfl, rfl, rfl, trivial⟩
          have hS249 := (St.pick (Γ' := [.own 2 1 b129 ((((F_UnravelFrame fp0 fp1 wq kq).1).2).length) c130 (((F_UnravelFrame fp0 fp1 wq kq).1).2), .blk b144 #[.int .i64 (((F_UnravelFrame fp0 fp1 wq kq).1).1), .slice b129 ((((F_UnravelFrame fp0 fp1 wq kq).1).2).length) c130] 28, .own 2 1 b131 (((F_UnravelFrame fp0 fp1 wq kq).2.1).length) c132 ((F_UnravelFrame fp0 fp1 wq kq).2.1), .own 2 1 b101 ((fp1).length) c102 fp1, .blk b104 #[.int .i64 fp0, .slice b101 ((fp1).length) c102] 28, .own 2 1 b62 ((((F_s_UnravelFrame fp0 fp1 wq kq).1).2).length) c63 (((F_s_UnravelFrame fp0 fp1 wq kq).1).2), .blk b76 #[.int .i64 (((F_s_UnravelFrame fp0 fp1 wq kq).1).1), .slice b62 ((((F_s_UnravelFrame fp0 fp1 wq kq).1).2).length) c63] 28, .own 2 1 b64 (((F_s_UnravelFrame fp0 fp1 wq kq).2.1).length) c65 ((F_s_UnravelFrame fp0 fp1 wq kq).2.1), .own 2 1 b49 ((fp1).length) c50 fp1, .rd 1 fp1A fp1.length fp1C fp1, .blk b2 #[.int .i64 fp0, .slice fp1A fp1.length fp1C] 24]) hS213 [1, 0, 2, 4, 3, 6, 5, 7, 8, 10, 9] (by decide) rfl)
          exact ⟨(by rw [hb221, hb175]; exact hE248), hS249⟩
    ·
      rintro a250 w251 ⟨hE252, hS253⟩; clear hE160 hS154
      refine c_cond hE252 rfl (fun ht254 => ?_) (fun ht254 => ?_)
      ·
        have hE255 := hE252; rw [ht254] at hE255; clear hE252
        refine c_seq ?_
        refine c_reg ?_
        refine q_step (v := .bool false) hE255 (y_assign rfl) rfl rfl rfl ?_; intro a256 hE257; clear hE255
        refine c_nil ?_
        have hE258 := hE257.sub (L' := [(6, .bool false)]) ⟨rfl, trivial⟩; clear hE257
        refine p_tn ?_
        refine wp_ret ?_
        refine p_tr ?_
        have hF : F_l_FnExactUnravelFrame fp0 fp1 wq kq = false := by unfold F_l_FnExactUnravelFrame; rw [ht254, ht32]; first | done | rfl
        refine c_ret1 hE258 rfl rfl ?_
        exact ⟨(by rw [hF]; first | done | rfl), hS253.ext⟩
      ·
        obtain ⟨ht259, ht260⟩ := bor_f ht254
        have ht261 := bn_f ht259
        have hp262 := of_decide_eq_true ht261
        obtain ⟨ht263, ht264⟩ := bor_f ht260
        have ht265 := bn_f ht263
        have hp266 := of_decide_eq_true ht265
        have ht267 := bn_f ht264
        have hp268 := of_decide_eq_true ht267
        have hE269 := hE252; rw [ht254] at hE269; clear hE252
        refine wp_skip ?_
        refine p_tn ?_
        refine c_seq ?_
        refine c_seq ?_
        refine d_start (fun w' => w'.heap[b104]? = some (.cells #[.int .i64 fp0, .slice b101 ((fp1).length) c102] 28 (0, 0)) ∧ w'.heap[b2]? = some (.cells #[.int .i64 fp0, .slice fp1A fp1.length fp1C] 24 (0, 0)) ∧ True) [0, 1] 5 (by kernel_rfl) rfl ?_
        intro w270 he271; have hS272 := St.go hS253 he271; clear hS253
        refine d_take (v := .agg #[.int .i64 fp0, .slice b101 ((fp1).length) c102]) 0 rfl hE269 ⟨(St.row (i := 4) hS272 rfl _ (Ext.refl _)), (St.row (i := 10) hS272 rfl _ (Ext.refl _)), trivial⟩ (y_loadS Try.underlying28 rfl (by kernel_rfl) rfl (fun _ h => h.1)) rfl rfl (by kernel_rfl) (by kernel_rfl) (by kernel_rfl) (by kernel_rfl) rfl rfl (fun _ _ _ h => h) ?_; intro a273 hE274; clear hE269
        refine d_take (v := .agg #[.int .i64 fp0, .slice fp1A fp1.length fp1C]) 1 rfl hE274 ⟨(St.row (i := 4) hS272 rfl _ (Ext.refl _)), (St.row (i := 10) hS272 rfl _ (Ext.refl _)), trivial⟩ (y_loadS Try.underlying24 rfl (by kernel_rfl) rfl (fun _ h => h.2.1)) rfl rfl (by kernel_rfl) (by kernel_rfl) (by kernel_rfl) (by kernel_rfl) rfl rfl (fun _ _ _ h => h) ?_; intro a275 hE276; clear hE274
        refine d_only 2 (by kernel_rfl) rfl hE276 rfl (l_call (f := 17) (argv := [.agg #[.int .i64 fp0, .slice fp1A fp1.length fp1C]]) hE276 (fun _ => cf_l_toFrame _ _) rfl rfl (d_l_toFrame fp0 fp1A fp1.length fp1C fp1 w270 (St.rdR (i := 9) hS272 rfl) (by first | omega | (simp only [marked_len]; omega) | (simp only [marked_len] at *; omega))) ?_)
        rintro _ w278 ⟨b283, c284, rfl, ho285, he282⟩ a279 hE280; clear hE276
        have hS281 := St.own hS272 he282 ho285; clear hS272
        refine ⟨fun _ _ => ⟨(St.row (i := 5) hS281 rfl _ (Ext.refl _)), (St.row (i := 11) hS281 rfl _ (Ext.refl _)), trivial⟩, ?_⟩
        refine d_only 3 (by kernel_rfl) rfl hE280 rfl (l_call (f := 20) (argv := [.agg #[.int .i64 fp0, .slice b101 ((fp1).length) c102], .agg #[.int .i64 fp0, .slice b283 ((fp1).length) c284]]) hE280 (fun _ => cf_l_eqFrame _ _) rfl rfl (d_l_eqFrame fp0 b101 ((fp1).length) c102 fp1 fp0 b283 ((fp1).length) c284 fp1 w278 (St.rdO (i := 4) hS281 rfl) (St.rdO (i := 0) hS281 rfl)) ?_)
        rintro _ w287 ⟨rfl, he291⟩ a288 hE289; clear hE280
        have hS290 := St.go hS281 he291; clear hS281
        refine ⟨fun h => Bool.noConfusion (h.symm.trans (show exm _ _ _ = true by kernel_rfl)), ?_⟩
        refine d_pure (v := .bool (!(decide ((fp0, fp1) = (fp0, fp1))))) 4 rfl hE289 (y_not rfl) rfl (by kernel_rfl) (by kernel_rfl) (by kernel_rfl) rfl rfl (fun _ _ _ h => h) ?_; intro a292 hE293; clear hE289
        refine d_done (by kernel_rfl) ?_
        have hE294 := hE293.sub (L' := [(1, .int .i64 wq), (2, .int .i64 kq), (3, .pointer (some ⟨b2, 0, none⟩)), (8, .pointer (some ⟨b76, 0, none⟩)), (9, .slice b64 (((F_s_UnravelFrame fp0 fp1 wq kq).2.1).length) c65), (10, .int .i64 ((F_s_UnravelFrame fp0 fp1 wq kq).2.2)), (11, .pointer (some ⟨b104, 0, none⟩)), (12, .pointer (some ⟨b144, 0, none⟩)), (13, .slice b131 (((F_UnravelFrame fp0 fp1 wq kq).2.1).length) c132), (14, .int .i64 ((F_UnravelFrame fp0 fp1 wq kq).2.2)), (64, .bool (!(decide ((fp0, fp1) = (fp0, fp1)))))]) ⟨rfl, rfl, rfl, rfl, rfl, rfl, rfl, rfl, rfl, rfl, rfl, trivial⟩; clear hE293
        refine p_tn ?_
        refine c_cond hE294 rfl (fun ht295 => ?_) (fun ht295 => ?_)
        ·
          have ht296 := bn_t ht295
          have hp297 := of_decide_eq_false ht296
          have hE298 := hE294; rw [ht295] at hE298; clear hE294
          refine c_seq ?_
          refine c_reg ?_
          refine q_step (v := .bool false) hE298 (y_assign rfl) rfl rfl rfl ?_; intro a299 hE300; clear hE298
          refine c_nil ?_
          have hE301 := hE300.sub (L' := [(6, .bool false)]) ⟨rfl, trivial⟩; clear hE300
          refine p_tn ?_
          refine wp_ret ?_
          refine p_tr ?_
          have hF : F_l_FnExactUnravelFrame fp0 fp1 wq kq = false := by unfold F_l_FnExactUnravelFrame; rw [ht295, ht254, ht32]; first | done | rfl
          refine c_ret1 hE301 rfl rfl ?_
          exact ⟨(by rw [hF]; first | done | rfl), hS290.ext⟩
        ·
          have ht302 := bn_f ht295
          have hp303 := of_decide_eq_true ht302
          have hE304 := hE294; rw [ht295] at hE304; clear hE294
          refine wp_skip ?_
          refine p_tn ?_
          refine c_seq ?_
          refine c_reg ?_
          refine q_step (v := .int .i64 1) hE304 (y_assign rfl) rfl rfl rfl ?_; intro a305 hE306; clear hE304
          refine c_nil ?_
          have hE307 := hE306.sub (L' := [(1, .int .i64 wq), (2, .int .i64 kq), (3, .pointer (some ⟨b2, 0, none⟩)), (8, .pointer (some ⟨b76, 0, none⟩)), (9, .slice b64 (((F_s_UnravelFrame fp0 fp1 wq kq).2.1).length) c65), (10, .int .i64 ((F_s_UnravelFrame fp0 fp1 wq kq).2.2)), (11, .pointer (some ⟨b104, 0, none⟩)), (12, .pointer (some ⟨b144, 0, none⟩)), (13, .slice b131 (((F_UnravelFrame fp0 fp1 wq kq).2.1).length) c132), (14, .int .i64 ((F_UnravelFrame fp0 fp1 wq kq).2.2)), (15, .int .i64 1)]) ⟨rfl, rfl, rfl, rfl, rfl, rfl, rfl, rfl, rfl, rfl, rfl, trivial⟩; clear hE306
          refine p_tn ?_
          refine c_seq ?_
          refine c_reg ?_
          refine q_step (v := .agg #[.int .i64 fp0, .slice b101 ((fp1).length) c102]) hE307 (y_loadS Try.underlying28 rfl (by kernel_rfl) rfl (St.row (i := 5) hS290 rfl)) rfl rfl rfl ?_; intro a308 hE309; clear hE307
          refine q_step (v := .int .i64 1) hE309 (y_move rfl) rfl rfl rfl ?_; intro a310 hE311; clear hE309
          have hS318 := (St.pick (Γ' := [.own 2 1 b101 ((fp1).length) c102 fp1, .own 2 1 b283 ((fp1).length) c284 fp1, .own 2 1 b129 ((((F_UnravelFrame fp0 fp1 wq kq).1).2).length) c130 (((F_UnravelFrame fp0 fp1 wq kq).1).2), .blk b144 #[.int .i64 (((F_UnravelFrame fp0 fp1 wq kq).1).1), .slice b129 ((((F_UnravelFrame fp0 fp1 wq kq).1).2).length) c130] 28, .own 2 1 b131 (((F_UnravelFrame fp0 fp1 wq kq).2.1).length) c132 ((F_UnravelFrame fp0 fp1 wq kq).2.1), .blk b104 #[.int .i64 fp0, .slice b101 ((fp1).length) c102] 28, .own 2 1 b62 ((((F_s_UnravelFrame fp0 fp1 wq kq).1).2).length) c63 (((F_s_UnravelFrame fp0 fp1 wq kq).1).2), .blk b76 #[.int .i64 (((F_s_UnravelFrame fp0 fp1 wq kq).1).1), .slice b62 ((((F_s_UnravelFrame fp0 fp1 wq kq).1).2).length) c63] 28, .own 2 1 b64 (((F_s_UnravelFrame fp0 fp1 wq kq).2.1).length) c65 ((F_s_UnravelFrame fp0 fp1 wq kq).2.1), .own 2 1 b49 ((fp1).length) c50 fp1, .rd 1 fp1A fp1.length fp1C fp1, .blk b2 #[.int .i64 fp0, .slice fp1A fp1.length fp1C] 24]) hS290 [4, 0, 1, 2, 3, 5, 6, 7, 8, 9, 10, 11] (by decide) rfl); clear hS290
          refine l_step hE311 rfl (l_call (f := 31) (argv := [.agg #[.int .i64 fp0, .slice b101 ((fp1).length) c102], .int .i64 1]) hE311 (fun _ => cf_l_markFrame _ _) rfl rfl (d_l_markFrame fp0 b101 ((fp1).length) c102 fp1 1 w287 w [.own 2 1 b283 ((fp1).length) c284 fp1, .own 2 1 b129 ((((F_UnravelFrame fp0 fp1 wq kq).1).2).length) c130 (((F_UnravelFrame fp0 fp1 wq kq).1).2), .blk b144 #[.int .i64 (((F_UnravelFrame fp0 fp1 wq kq).1).1), .slice b129 ((((F_UnravelFrame fp0 fp1 wq kq).1).2).length) c130] 28, .own 2 1 b131 (((F_UnravelFrame fp0 fp1 wq kq).2.1).length) c132 ((F_UnravelFrame fp0 fp1 wq kq).2.1), .blk b104 #[.int .i64 fp0, .slice b101 ((fp1).length) c102] 28, .own 2 1 b62 ((((F_s_UnravelFrame fp0 fp1 wq kq).1).2).length) c63 (((F_s_UnravelFrame fp0 fp1 wq kq).1).2), .blk b76 #[.int .i64 (((F_s_UnravelFrame fp0 fp1 wq kq).1).1), .slice b62 ((((F_s_UnravelFrame fp0 fp1 wq kq).1).2).length) c63] 28, .own 2 1 b64 (((F_s_UnravelFrame fp0 fp1 wq kq).2.1).length) c65 ((F_s_UnravelFrame fp0 fp1 wq kq).2.1), .own 2 1 b49 ((fp1).length) c50 fp1, .rd 1 fp1A fp1.length fp1C fp1, .blk b2 #[.int .i64 fp0, .slice fp1A fp1.length fp1C] 24] hS318 (by first | omega | (simp only [marked_len]; omega) | (simp only [marked_len] at *; omega)) (by first | omega | (simp only [marked_len]; omega) | (simp only [marked_len] at *; omega)) (by first | omega | (simp only [marked_len]; omega) | (simp only [marked_len] at *; omega))) ?_)
          rintro _ w313 ⟨rfl, hS316⟩ a314 hE315; clear hE311 hS318
          refine q_step (v := .int .i64 (1 + (fp1.length : Int))) hE315 (y_assign rfl) rfl rfl rfl ?_; intro a319 hE320; clear hE315
          refine c_nil ?_
          have hE321 := hE320.sub (L' := [(1, .int .i64 wq), (2, .int .i64 kq), (3, .pointer (some ⟨b2, 0, none⟩)), (8, .pointer (some ⟨b76, 0, none⟩)), (9, .slice b64 (((F_s_UnravelFrame fp0 fp1 wq kq).2.1).length) c65), (10, .int .i64 ((F_s_UnravelFrame fp0 fp1 wq kq).2.2)), (12, .pointer (some ⟨b144, 0, none⟩)), (13, .slice b131 (((F_UnravelFrame fp0 fp1 wq kq).2.1).length) c132), (14, .int .i64 ((F_UnravelFrame fp0 fp1 wq kq).2.2)), (15, .int .i64 (1 + (fp1.length : Int)))]) ⟨rfl, rfl, rfl, rfl, rfl, rfl, rfl, rfl, rfl, rfl, trivial⟩; clear hE320
          refine p_tn ?_
          refine c_seq ?_
          refine c_cut (fun a' w' => E a' 143 [(1, .int .i64 wq), (2, .int .i64 kq), (3, .pointer (some ⟨b2, 0, none⟩)), (8, .pointer (some ⟨b76, 0, none⟩)), (9, .slice b64 (((F_s_UnravelFrame fp0 fp1 wq kq).2.1).length) c65), (10, .int .i64 ((F_s_UnravelFrame fp0 fp1 wq kq).2.2)), (12, .pointer (some ⟨b144, 0, none⟩)), (13, .slice b131 (((F_UnravelFrame fp0 fp1 wq kq).2.1).length) c132), (86, .bool ((decide ((1 + (fp1.length : Int)) < 0)) || ((!(decide (((((F_UnravelFrame fp0 fp1 wq kq).1).1), (((F_UnravelFrame fp0 fp1 wq kq).1).2)) = ((((F_s_UnravelFrame fp0 fp1 wq kq).1).1), (((F_s_UnravelFrame fp0 fp1 wq kq).1).2))))) || ((!(decide (((F_UnravelFrame fp0 fp1 wq kq).2.1) = ((F_s_UnravelFrame fp0 fp1 wq kq).2.1)))) || (!decide (((F_UnravelFrame fp0 fp1 wq kq).2.2) = ((F_s_UnravelFrame fp0 fp1 wq kq).2.2)))))))] ∧ St w w' [.own 2 1 b101 ((fp1).length) c102 (marked fp1.length 1), .own 2 1 b283 ((fp1).length) c284 fp1, .own 2 1 b129 ((((F_UnravelFrame fp0 fp1 wq kq).1).2).length) c130 (((F_UnravelFrame fp0 fp1 wq kq).1).2), .blk b144 #[.int .i64 (((F_UnravelFrame fp0 fp1 wq kq).1).1), .slice b129 ((((F_UnravelFrame fp0 fp1 wq kq).1).2).length) c130] 28, .own 2 1 b131 (((F_UnravelFrame fp0 fp1 wq kq).2.1).length) c132 ((F_UnravelFrame fp0 fp1 wq kq).2.1), .blk b104 #[.int .i64 fp0, .slice b101 ((fp1).length) c102] 28, .own 2 1 b62 ((((F_s_UnravelFrame fp0 fp1 wq kq).1).2).length) c63 (((F_s_UnravelFrame fp0 fp1 wq kq).1).2), .blk b76 #[.int .i64 (((F_s_UnravelFrame fp0 fp1 wq kq).1).1), .slice b62 ((((F_s_UnravelFrame fp0 fp1 wq kq).1).2).length) c63] 28, .own 2 1 b64 (((F_s_UnravelFrame fp0 fp1 wq kq).2.1).length) c65 ((F_s_UnravelFrame fp0 fp1 wq kq).2.1), .own 2 1 b49 ((fp1).length) c50 fp1, .rd 1 fp1A fp1.length fp1C fp1, .blk b2 #[.int .i64 fp0, .slice fp1A fp1.length fp1C] 24]) ?_ ?_
          ·
            refine c_reg ?_
            refine q_step (v := .int .i64 (1 + (fp1.length : Int))) hE321 (y_move rfl) rfl rfl rfl ?_; intro a322 hE323; clear hE321
            refine q_step (v := .bool (decide ((1 + (fp1.length : Int)) < 0))) hE323 (y_lss rfl rfl) rfl rfl rfl ?_; intro a324 hE325; clear hE323
            refine q_step (v := .bool (decide ((1 + (fp1.length : Int)) < 0))) hE325 (y_move rfl) rfl rfl rfl ?_; intro a326 hE327; clear hE325
            rcases Bool.eq_false_or_eq_true (decide ((1 + (fp1.length : Int)) < 0)) with hb328 | hb328
            ·
              have hE329 := hE327; rw [hb328] at hE329; clear hE327
              have hp330 := of_decide_eq_true hb328
              refine q_skip hE329 rfl rfl rfl ?_; intro a331 hE332; clear hE329
              refine q_skip hE332 rfl rfl rfl ?_; intro a333 hE334; clear hE332
              refine q_skip hE334 rfl rfl rfl ?_; intro a335 hE336; clear hE334
              refine q_skip hE336 rfl rfl rfl ?_; intro a337 hE338; clear hE336
              refine q_step (v := .bool true) hE338 (y_pick (b := true) rfl rfl) rfl rfl rfl ?_; intro a339 hE340; clear hE338
              refine q_step (v := .bool true) hE340 (y_move rfl) rfl rfl rfl ?_; intro a341 hE342; clear hE340
              refine q_skip hE342 rfl rfl rfl ?_; intro a343 hE344; clear hE342
              refine q_skip hE344 rfl rfl rfl ?_; intro a345 hE346; clear hE344
              refine q_skip hE346 rfl rfl rfl ?_; intro a347 hE348; clear hE346
              refine q_skip hE348 rfl rfl rfl ?_; intro a349 hE350; clear hE348
              refine q_step (v := .bool true) hE350 (y_pick (b := true) rfl rfl) rfl rfl rfl ?_; intro a351 hE352; clear hE350
              refine q_step (v := .bool true) hE352 (y_move rfl) rfl rfl rfl ?_; intro a353 hE354; clear hE352
              refine q_skip hE354 rfl rfl rfl ?_; intro a355 hE356; clear hE354
              refine q_skip hE356 rfl rfl rfl ?_; intro a357 hE358; clear hE356
              refine q_skip hE358 rfl rfl rfl ?_; intro a359 hE360; clear hE358
              refine q_step (v := .bool true) hE360 (y_pick (b := true) rfl rfl) rfl rfl rfl ?_; intro a361 hE362; clear hE360
              refine c_nil ?_
              have hE363 := hE362.sub (L' := [(1, .int .i64 wq), (2, .int .i64 kq), (3, .pointer (some ⟨b2, 0, none⟩)), (8, .pointer (some ⟨b76, 0, none⟩)), (9, .slice b64 (((F_s_UnravelFrame fp0 fp1 wq kq).2.1).length) c65), (10, .int .i64 ((F_s_UnravelFrame fp0 fp1 wq kq).2.2)), (12, .pointer (some ⟨b144, 0, none⟩)), (13, .slice b131 (((F_UnravelFrame fp0 fp1 wq kq).2.1).length) c132), (86, .bool true)]) ⟨rfl, rfl, rfl, rfl, rfl, rfl, rfl, rfl, rfl, trivial⟩; clear hE362
              refine p_tn ?_
              have hE364 := hE363.sub (L' := [(1, .int .i64 wq), (2, .int .i64 kq), (3, .pointer (some ⟨b2, 0, none⟩)), (8, .pointer (some ⟨b76, 0, none⟩)), (9, .slice b64 (((F_s_UnravelFrame fp0 fp1 wq kq).2.1).length) c65), (10, .int .i64 ((F_s_UnravelFrame fp0 fp1 wq kq).2.2)), (12, .pointer (some ⟨b144, 0, none⟩)), (13, .slice b131 (((F_UnravelFrame fp0 fp1 wq kq).2.1).length) c132), (86, .bool true)]) ⟨rfl, rfl, rfl, rfl, rfl, rfl, rfl, rfl, rfl, trivial⟩
              have hS365 := (St.pick (Γ' := [.own 2 1 b101 ((fp1).length) c102 (marked fp1.length 1), .own 2 1 b283 ((fp1).length) c284 fp1, .own 2 1 b129 ((((F_UnravelFrame fp0 fp1 wq kq).1).2).length) c130 (((F_UnravelFrame fp0 fp1 wq kq).1).2), .blk b144 #[.int .i64 (((F_UnravelFrame fp0 fp1 wq kq).1).1), .slice b129 ((((F_UnravelFrame fp0 fp1 wq kq).1).2).length) c130] 28, .own 2 1 b131 (((F_UnravelFrame fp0 fp1 wq kq).2.1).length) c132 ((F_UnravelFrame fp0 fp1 wq kq).2.1), .blk b104 #[.int .i64 fp0, .slice b101 ((fp1).length) c102] 28, .own 2 1 b62 ((((F_s_UnravelFrame fp0 fp1 wq kq).1).2).length) c63 (((F_s_UnravelFrame fp0 fp1 wq kq).1).2), .blk b76 #[.int .i64 (((F_s_UnravelFrame fp0 fp1 wq kq).1).1), .slice b62 ((((F_s_UnravelFrame fp0 fp1 wq kq).1).2).length) c63] 28, .own 2 1 b64 (((F_s_UnravelFrame fp0 fp1 wq kq).2.1).length) c65 ((F_s_UnravelFrame fp0 fp1 wq kq).2.1), .own 2 1 b49 ((fp1).length) c50 fp1, .rd 1 fp1A fp1.length fp1C fp1, .blk b2 #[.int .i64 fp0, .slice fp1A fp1.length fp1C] 24]) hS316 [0, 1, 2, 3, 4, 5, 6, 7, 8, 9, 10, 11] (by decide) rfl)
              exact ⟨(by rw [hb328]; exact hE364), hS365⟩
            ·
              have hE366 := hE327; rw [hb328] at hE366; clear hE327
              have hp367 := of_decide_eq_false hb328
              refine q_step (v := .agg #[.int .i64 (((F_UnravelFrame fp0 fp1 wq kq).1).1), .slice b129 ((((F_UnravelFrame fp0 fp1 wq kq).1).2).length) c130]) hE366 (y_loadS Try.underlying28 rfl (by kernel_rfl) rfl (St.row (i := 3) hS316 rfl)) rfl rfl rfl ?_; intro a368 hE369; clear hE366
              refine q_step (v := .agg #[.int .i64 (((F_s_UnravelFrame fp0 fp1 wq kq).1).1), .slice b62 ((((F_s_UnravelFrame fp0 fp1 wq kq).1).2).length) c63]) hE369 (y_loadS Try.underlying28 rfl (by kernel_rfl) rfl (St.row (i := 7) hS316 rfl)) rfl rfl rfl ?_; intro a370 hE371; clear hE369
              refine l_step hE371 rfl (l_call (f := 20) (argv := [.agg #[.int .i64 (((F_UnravelFrame fp0 fp1 wq kq).1).1), .slice b129 ((((F_UnravelFrame fp0 fp1 wq kq).1).2).length) c130], .agg #[.int .i64 (((F_s_UnravelFrame fp0 fp1 wq kq).1).1), .slice b62 ((((F_s_UnravelFrame fp0 fp1 wq kq).1).2).length) c63]]) hE371 (fun _ => cf_l_eqFrame _ _) rfl rfl (d_l_eqFrame (((F_UnravelFrame fp0 fp1 wq kq).1).1) b129 ((((F_UnravelFrame fp0 fp1 wq kq).1).2).length) c130 (((F_UnravelFrame fp0 fp1 wq kq).1).2) (((F_s_UnravelFrame fp0 fp1 wq kq).1).1) b62 ((((F_s_UnravelFrame fp0 fp1 wq kq).1).2).length) c63 (((F_s_UnravelFrame fp0 fp1 wq kq).1).2) w313 (St.rdO (i := 2) hS316 rfl) (St.rdO (i := 6) hS316 rfl)) ?_)
              rintro _ w373 ⟨rfl, he377⟩ a374 hE375; clear hE371
              have hS376 := St.go hS316 he377; clear hS316
              refine q_step (v := .bool (!(decide (((((F_UnravelFrame fp0 fp1 wq kq).1).1), (((F_UnravelFrame fp0 fp1 wq kq).1).2)) = ((((F_s_UnravelFrame fp0 fp1 wq kq).1).1), (((F_s_UnravelFrame fp0 fp1 wq kq).1).2)))))) hE375 (y_not rfl) rfl rfl rfl ?_; intro a378 hE379; clear hE375
              refine q_step (v := .bool (!(decide (((((F_UnravelFrame fp0 fp1 wq kq).1).1), (((F_UnravelFrame fp0 fp1 wq kq).1).2)) = ((((F_s_UnravelFrame fp0 fp1 wq kq).1).1), (((F_s_UnravelFrame fp0 fp1 wq kq).1).2)))))) hE379 (y_pick (b := false) rfl rfl) rfl rfl rfl ?_; intro a380 hE381; clear hE379
              refine q_step (v := .bool (!(decide (((((F_UnravelFrame fp0 fp1 wq kq).1).1), (((F_UnravelFrame fp0 fp1 wq kq).1).2)) = ((((F_s_UnravelFrame fp0 fp1 wq kq).1).1), (((F_s_UnravelFrame fp0 fp1 wq kq).1).2)))))) hE381 (y_move rfl) rfl rfl rfl ?_; intro a382 hE383; clear hE381
              rcases Bool.eq_false_or_eq_true (!(decide (((((F_UnravelFrame fp0 fp1 wq kq).1).1), (((F_UnravelFrame fp0 fp1 wq kq).1).2)) = ((((F_s_UnravelFrame fp0 fp1 wq kq).1).1), (((F_s_UnravelFrame fp0 fp1 wq kq).1).2))))) with hb384 | hb384
              ·
                have hE385 := hE383; rw [hb384] at hE385; clear hE383
                have ht386 := bn_t hb384
                have hp387 := of_decide_eq_false ht386
                refine q_skip hE385 rfl rfl rfl ?_; intro a388 hE389; clear hE385
                refine q_skip hE389 rfl rfl rfl ?_; intro a390 hE391; clear hE389
                refine q_skip hE391 rfl rfl rfl ?_; intro a392 hE393; clear hE391
                refine q_skip hE393 rfl rfl rfl ?_; intro a394 hE395; clear hE393
                refine q_step (v := .bool true) hE395 (y_pick (b := true) rfl rfl) rfl rfl rfl ?_; intro a396 hE397; clear hE395
                refine q_step (v := .bool true) hE397 (y_move rfl) rfl rfl rfl ?_; intro a398 hE399; clear hE397
                refine q_skip hE399 rfl rfl rfl ?_; intro a400 hE401; clear hE399
                refine q_skip hE401 rfl rfl rfl ?_; intro a402 hE403; clear hE401
                refine q_skip hE403 rfl rfl rfl ?_; intro a404 hE405; clear hE403
                refine q_step (v := .bool true) hE405 (y_pick (b := true) rfl rfl) rfl rfl rfl ?_; intro a406 hE407; clear hE405
                refine c_nil ?_
                have hE408 := hE407.sub (L' := [(1, .int .i64 wq), (2, .int .i64 kq), (3, .pointer (some ⟨b2, 0, none⟩)), (8, .pointer (some ⟨b76, 0, none⟩)), (9, .slice b64 (((F_s_UnravelFrame fp0 fp1 wq kq).2.1).length) c65), (10, .int .i64 ((F_s_UnravelFrame fp0 fp1 wq kq).2.2)), (12, .pointer (some ⟨b144, 0, none⟩)), (13, .slice b131 (((F_UnravelFrame fp0 fp1 wq kq).2.1).length) c132), (86, .bool true)]) ⟨rfl, rfl, rfl, rfl, rfl, rfl, rfl, rfl, rfl, trivial⟩; clear hE407
                refine p_tn ?_
                have hE409 := hE408.sub (L' := [(1, .int .i64 wq), (2, .int .i64 kq), (3, .pointer (some ⟨b2, 0, none⟩)), (8, .pointer (some ⟨b76, 0, none⟩)), (9, .slice b64 (((F_s_UnravelFrame fp0 fp1 wq kq).2.1).length) c65), (10, .int .i64 ((F_s_UnravelFrame fp0 fp1 wq kq).2.2)), (12, .pointer (some ⟨b144, 0, none⟩)), (13, .slice b131 (((F_UnravelFrame fp0 fp1 wq kq).2.1).length) c132), (86, .bool true)]) ⟨rfl, rfl, rfl, rfl, rfl, rfl, rfl, rfl, rfl, trivial⟩
                have hS410 := (St.pick (Γ' := [.own 2 1 b101 ((fp1).length) c102 (marked fp1.length 1), .own 2 1 b283 ((fp1).length) c284 fp1, .own 2 1 b129 ((((F_UnravelFrame fp0 fp1 wq kq).1).2).length) c130 (((F_UnravelFrame fp0 fp1 wq kq).1).2), .blk b144 #[.int .i64 (((F_UnravelFrame fp0 fp1 wq kq).1).1), .slice b129 ((((F_UnravelFrame fp0 fp1 wq kq).1).2).length) c130] 28, .own 2 1 b131 (((F_UnravelFrame fp0 fp1 wq kq).2.1).length) c132 ((F_UnravelFrame fp0 fp1 wq kq).2.1), .blk b104 #[.int .i64 fp0, .slice b101 ((fp1).length) c102] 28, .own 2 1 b62 ((((F_s_UnravelFrame fp0 fp1 wq kq).1).2).length) c63 (((F_s_UnravelFrame fp0 fp1 wq kq).1).2), .blk b76 #[.int .i64 (((F_s_UnravelFrame fp0 fp1 wq kq).1).1), .slice b62 ((((F_s_UnravelFrame fp0 fp1 wq kq).1).2).length) c63] 28, .own 2 1 b64 (((F_s_UnravelFrame fp0 fp1 wq kq).2.1).length) c65 ((F_s_UnravelFrame fp0 fp1 wq kq).2.1), .own 2 1 b49 ((fp1).length) c50 fp1, .rd 1 fp1A fp1.length fp1C fp1, .blk b2 #[.int .i64 fp0, .slice fp1A fp1.length fp1C] 24]) hS376 [0, 1, 2, 3, 4, 5, 6, 7, 8, 9, 10, 11] (by decide) rfl)
                exact ⟨(by rw [hb384, hb328]; exact hE409), hS410⟩
              ·
                have hE411 := hE383; rw [hb384] at hE411; clear hE383
                have ht412 := bn_f hb384
                have hp413 := of_decide_eq_true ht412
                refine q_step (v := .slice b131 (((F_UnravelFrame fp0 fp1 wq kq).2.1).length) c132) hE411 (y_move rfl) rfl rfl rfl ?_; intro a414 hE415; clear hE411
                refine q_step (v := .slice b64 (((F_s_UnravelFrame fp0 fp1 wq kq).2.1).length) c65) hE415 (y_move rfl) rfl rfl rfl ?_; intro a416 hE417; clear hE415
                refine l_step hE417 rfl (l_call (f := 21) (argv := [.slice b131 (((F_UnravelFrame fp0 fp1 wq kq).2.1).length) c132, .slice b64 (((F_s_UnravelFrame fp0 fp1 wq kq).2.1).length) c65]) hE417 (fun _ => cf_l_eqInt64S _ _) rfl rfl (d_l_eqInt64S b131 (((F_UnravelFrame fp0 fp1 wq kq).2.1).length) c132 ((F_UnravelFrame fp0 fp1 wq kq).2.1) b64 (((F_s_UnravelFrame fp0 fp1 wq kq).2.1).length) c65 ((F_s_UnravelFrame fp0 fp1 wq kq).2.1) w373 (St.rdO (i := 4) hS376 rfl) (St.rdO (i := 8) hS376 rfl)) ?_)
                rintro _ w419 ⟨rfl, he423⟩ a420 hE421; clear hE417
                have hS422 := St.go hS376 he423; clear hS376
                refine q_step (v := .bool (!(decide (((F_UnravelFrame fp0 fp1 wq kq).2.1) = ((F_s_UnravelFrame fp0 fp1 wq kq).2.1))))) hE421 (y_not rfl) rfl rfl rfl ?_; intro a424 hE425; clear hE421
                refine q_step (v := .bool (!(decide (((F_UnravelFrame fp0 fp1 wq kq).2.1) = ((F_s_UnravelFrame fp0 fp1 wq kq).2.1))))) hE425 (y_pick (b := false) rfl rfl) rfl rfl rfl ?_; intro a426 hE427; clear hE425
                refine q_step (v := .bool (!(decide (((F_UnravelFrame fp0 fp1 wq kq).2.1) = ((F_s_UnravelFrame fp0 fp1 wq kq).2.1))))) hE427 (y_move rfl) rfl rfl rfl ?_; intro a428 hE429; clear hE427
                rcases Bool.eq_false_or_eq_true (!(decide (((F_UnravelFrame fp0 fp1 wq kq).2.1) = ((F_s_UnravelFrame fp0 fp1 wq kq).2.1)))) with hb430 | hb430
                ·
                  have hE431 := hE429; rw [hb430] at hE431; clear hE429
                  have ht432 := bn_t hb430
                  have hp433 := of_decide_eq_false ht432
                  refine q_skip hE431 rfl rfl rfl ?_; intro a434 hE435; clear hE431
                  refine q_skip hE435 rfl rfl rfl ?_; intro a436 hE437; clear hE435
                  refine q_skip hE437 rfl rfl rfl ?_; intro a438 hE439; clear hE437
                  refine q_step (v := .bool true) hE439 (y_pick (b := true) rfl rfl) rfl rfl rfl ?_; intro a440 hE441; clear hE439
                  refine c_nil ?_
                  have hE442 := hE441.sub (L' := [(1, .int .i64 wq), (2, .int .i64 kq), (3, .pointer (some ⟨b2, 0, none⟩)), (8, .pointer (some ⟨b76, 0, none⟩)), (9, .slice b64 (((F_s_UnravelFrame fp0 fp1 wq kq).2.1).length) c65), (10, .int .i64 ((F_s_UnravelFrame fp0 fp1 wq kq).2.2)), (12, .pointer (some ⟨b144, 0, none⟩)), (13, .slice b131 (((F_UnravelFrame fp0 fp1 wq kq).2.1).length) c132), (86, .bool true)]) ⟨rfl, rfl, rfl, rfl, rfl, rfl, rfl, rfl, rfl, trivial⟩; clear hE441
                  refine p_tn ?_
                  have hE443 := hE442.sub (L' := [(1, .int .i64 wq), (2, .int .i64 kq), (3, .pointer (some ⟨b2, 0, none⟩)), (8, .pointer (some ⟨b76, 0, none⟩)), (9, .slice b64 (((F_s_UnravelFrame fp0 fp1 wq kq).2.1).length) c65), (10, .int .i64 ((F_s_UnravelFrame fp0 fp1 wq kq).2.2)), (12, .pointer (some ⟨b144, 0, none⟩)), (13, .slice b131 (((F_UnravelFrame fp0 fp1 wq kq).2.1).length) c132), (86, .bool true)]) ⟨rfl, rfl, rfl, rfl, rfl, rfl, rfl, rfl, rfl, trivial⟩
                  have hS444 := (St.pick (Γ' := [.own 2 1 b101 ((fp1).length) c102 (marked fp1.length 1), .own 2 1 b283 ((fp1).length) c284 fp1, .own 2 1 b129 ((((F_UnravelFrame fp0 fp1 wq kq).1).2).length) c130 (((F_UnravelFrame fp0 fp1 wq kq).1).2), .blk b144 #[.int .i64 (((F_UnravelFrame fp0 fp1 wq kq).1).1), .slice b129 ((((F_UnravelFrame fp0 fp1 wq kq).1).2).length) c130] 28, .own 2 1 b131 (((F_UnravelFrame fp0 fp1 wq kq).2.1).length) c132 ((F_UnravelFrame fp0 fp1 wq kq).2.1), .blk b104 #[.int .i64 fp0, .slice b101 ((fp1).length) c102] 28, .own 2 1 b62 ((((F_s_UnravelFrame fp0 fp1 wq kq).1).2).length) c63 (((F_s_UnravelFrame fp0 fp1 wq kq).1).2), .blk b76 #[.int .i64 (((F_s_UnravelFrame fp0 fp1 wq kq).1).1), .slice b62 ((((F_s_UnravelFrame fp0 fp1 wq kq).1).2).length) c63] 28, .own 2 1 b64 (((F_s_UnravelFrame fp0 fp1 wq kq).2.1).length) c65 ((F_s_UnravelFrame fp0 fp1 wq kq).2.1), .own 2 1 b49 ((fp1).length) c50 fp1, .rd 1 fp1A fp1.length fp1C fp1, .blk b2 #[.int .i64 fp0, .slice fp1A fp1.length fp1C] 24]) hS422 [0, 1, 2, 3, 4, 5, 6, 7, 8, 9, 10, 11] (by decide) rfl)
                  exact ⟨(by rw [hb430, hb384, hb328]; exact hE443), hS444⟩
                ·
                  have hE445 := hE429; rw [hb430] at hE445; clear hE429
                  have ht446 := bn_f hb430
                  have hp447 := of_decide_eq_true ht446
                  refine q_step (v := .int .i64 ((F_UnravelFrame fp0 fp1 wq kq).2.2)) hE445 (y_move rfl) rfl rfl rfl ?_; intro a448 hE449; clear hE445
                  refine q_step (v := .int .i64 ((F_s_UnravelFrame fp0 fp1 wq kq).2.2)) hE449 (y_move rfl) rfl rfl rfl ?_; intro a450 hE451; clear hE449
                  refine q_step (v := .bool (!decide (((F_UnravelFrame fp0 fp1 wq kq).2.2) = ((F_s_UnravelFrame fp0 fp1 wq kq).2.2)))) hE451 (y_neq rfl rfl) rfl rfl rfl ?_; intro a452 hE453; clear hE451
                  refine q_step (v := .bool (!decide (((F_UnravelFrame fp0 fp1 wq kq).2.2) = ((F_s_UnravelFrame fp0 fp1 wq kq).2.2)))) hE453 (y_pick (b := false) rfl rfl) rfl rfl rfl ?_; intro a454 hE455; clear hE453
                  refine c_nil ?_
                  have hE456 := hE455.sub (L' := [(1, .int .i64 wq), (2, .int .i64 kq), (3, .pointer (some ⟨b2, 0, none⟩)), (8, .pointer (some ⟨b76, 0, none⟩)), (9, .slice b64 (((F_s_UnravelFrame fp0 fp1 wq kq).2.1).length) c65), (10, .int .i64 ((F_s_UnravelFrame fp0 fp1 wq kq).2.2)), (12, .pointer (some ⟨b144, 0, none⟩)), (13, .slice b131 (((F_UnravelFrame fp0 fp1 wq kq).2.1).length) c132), (86, .bool (!decide (((F_UnravelFrame fp0 fp1 wq kq).2.2) = ((F_s_UnravelFrame fp0 fp1 wq kq).2.2))))]) ⟨rfl, rfl, rfl, rfl, rfl, rfl, rfl, rfl, rfl, trivial⟩; clear hE455
                  refine p_tn ?_
                  have hE457 := hE456.sub (L' := [(1, .int .i64 wq), (2, .int .i64 kq), (3, .pointer (some ⟨b2, 0, none⟩)), (8, .pointer (some ⟨b76, 0, none⟩)), (9, .slice b64 (((F_s_UnravelFrame fp0 fp1 wq kq).2.1).length) c65), (10, .int .i64 ((F_s_UnravelFrame fp0 fp1 wq kq).2.2)), (12, .pointer (some ⟨b144, 0, none⟩)), (13, .slice b131 (((F_UnravelFrame fp0 fp1 wq kq).2.1).length) c132), (86, .bool (!decide (((F_UnravelFrame fp0 fp1 wq kq).2.2) = ((F_s_UnravelFrame fp0 fp1 wq kq).2.2))))]) ⟨rfl, rfl, rfl, rfl, rfl, rfl, rfl, rfl, rfl, trivial⟩
                  have hS458 := (St.pick (Γ' := [.own 2 1 b101 ((fp1).length) c102 (marked fp1.length 1), .own 2 1 b283 ((fp1).length) c284 fp1, .own 2 1 b129 ((((F_UnravelFrame fp0 fp1 wq kq).1).2).length) c130 (((F_UnravelFrame fp0 fp1 wq kq).1).2), .blk b144 #[.int .i64 (((F_UnravelFrame fp0 fp1 wq kq).1).1), .slice b129 ((((F_UnravelFrame fp0 fp1 wq kq).1).2).length) c130] 28, .own 2 1 b131 (((F_UnravelFrame fp0 fp1 wq kq).2.1).length) c132 ((F_UnravelFrame fp0 fp1 wq kq).2.1), .blk b104 #[.int .i64 fp0, .slice b101 ((fp1).length) c102] 28, .own 2 1 b62 ((((F_s_UnravelFrame fp0 fp1 wq kq).1).2).length) c63 (((F_s_UnravelFrame fp0 fp1 wq kq).1).2), .blk b76 #[.int .i64 (((F_s_UnravelFrame fp0 fp1 wq kq).1).1), .slice b62 ((((F_s_UnravelFrame fp0 fp1 wq kq).1).2).length) c63] 28, .own 2 1 b64 (((F_s_UnravelFrame fp0 fp1 wq kq).2.1).length) c65 ((F_s_UnravelFrame fp0 fp1 wq kq).2.1), .own 2 1 b49 ((fp1).length) c50 fp1, .rd 1 fp1A fp1.length fp1C fp1, .blk b2 #[.int .i64 fp0, .slice fp1A fp1.length fp1C] 24]) hS422 [0, 1, 2, 3, 4, 5, 6, 7, 8, 9, 10, 11] (by decide) rfl)
                  exact ⟨(by rw [hb430, hb384, hb328]; exact hE457), hS458⟩
          ·
            rintro a459 w460 ⟨hE461, hS462⟩; clear hE321 hS316
            refine c_cond hE461 rfl (fun ht463 => ?_) (fun ht463 => ?_)
            ·
              have hE464 := hE461; rw [ht463] at hE464; clear hE461
              refine c_seq ?_
              refine c_reg ?_
              refine q_step (v := .bool false) hE464 (y_assign rfl) rfl rfl rfl ?_; intro a465 hE466; clear hE464
              refine c_nil ?_
              have hE467 := hE466.sub (L' := [(6, .bool false)]) ⟨rfl, trivial⟩; clear hE466
              refine p_tn ?_
              refine wp_ret ?_
              refine p_tr ?_
              have hF : F_l_FnExactUnravelFrame fp0 fp1 wq kq = false := by unfold F_l_FnExactUnravelFrame; rw [ht463, ht295, ht254, ht32]; first | done | rfl
              refine c_ret1 hE467 rfl rfl ?_
              exact ⟨(by rw [hF]; first | done | rfl), hS462.ext⟩
            ·
              obtain ⟨ht468, ht469⟩ := bor_f ht463
              have hp470 := of_decide_eq_false ht468
              obtain ⟨ht471, ht472⟩ := bor_f ht469
              have ht473 := bn_f ht471
              have hp474 := of_decide_eq_true ht473
              obtain ⟨ht475, ht476⟩ := bor_f ht472
              have ht477 := bn_f ht475
              have hp478 := of_decide_eq_true ht477
              have ht479 := bn_f ht476
              have hp480 := of_decide_eq_true ht479
              have hE481 := hE461; rw [ht463] at hE481; clear hE461
              refine wp_skip ?_
              refine p_tn ?_
              refine c_seq ?_
              refine c_reg ?_
              refine q_step (v := .int .i64 1) hE481 (y_assign rfl) rfl rfl rfl ?_; intro a482 hE483; clear hE481
              refine c_nil ?_
              have hE484 := hE483.sub (L' := [(1, .int .i64 wq), (2, .int .i64 kq), (3, .pointer (some ⟨b2, 0, none⟩)), (8, .pointer (some ⟨b76, 0, none⟩)), (9, .slice b64 (((F_s_UnravelFrame fp0 fp1 wq kq).2.1).length) c65), (10, .int .i64 ((F_s_UnravelFrame fp0 fp1 wq kq).2.2)), (12, .pointer (some ⟨b144, 0, none⟩)), (13, .slice b131 (((F_UnravelFrame fp0 fp1 wq kq).2.1).length) c132), (16, .int .i64 1)]) ⟨rfl, rfl, rfl, rfl, rfl, rfl, rfl, rfl, rfl, trivial⟩; clear hE483
              refine p_tn ?_
              refine c_seq ?_
              refine c_reg ?_
              refine q_step (v := .agg #[.int .i64 (((F_UnravelFrame fp0 fp1 wq kq).1).1), .slice b129 ((((F_UnravelFrame fp0 fp1 wq kq).1).2).length) c130]) hE484 (y_loadS Try.underlying28 rfl (by kernel_rfl) rfl (St.row (i := 3) hS462 rfl)) rfl rfl rfl ?_; intro a485 hE486; clear hE484
              refine q_step (v := .int .i64 1) hE486 (y_move rfl) rfl rfl rfl ?_; intro a487 hE488; clear hE486
              have hS495 := (St.pick (Γ' := [.own 2 1 b129 ((((F_UnravelFrame fp0 fp1 wq kq).1).2).length) c130 (((F_UnravelFrame fp0 fp1 wq kq).1).2), .own 2 1 b101 ((fp1).length) c102 (marked fp1.length 1), .own 2 1 b283 ((fp1).length) c284 fp1, .blk b144 #[.int .i64 (((F_UnravelFrame fp0 fp1 wq kq).1).1), .slice b129 ((((F_UnravelFrame fp0 fp1 wq kq).1).2).length) c130] 28, .own 2 1 b131 (((F_UnravelFrame fp0 fp1 wq kq).2.1).length) c132 ((F_UnravelFrame fp0 fp1 wq kq).2.1), .blk b104 #[.int .i64 fp0, .slice b101 ((fp1).length) c102] 28, .own 2 1 b62 ((((F_s_UnravelFrame fp0 fp1 wq kq).1).2).length) c63 (((F_s_UnravelFrame fp0 fp1 wq kq).1).2), .blk b76 #[.int .i64 (((F_s_UnravelFrame fp0 fp1 wq kq).1).1), .slice b62 ((((F_s_UnravelFrame fp0 fp1 wq kq).1).2).length) c63] 28, .own 2 1 b64 (((F_s_UnravelFrame fp0 fp1 wq kq).2.1).length) c65 ((F_s_UnravelFrame fp0 fp1 wq kq).2.1), .own 2 1 b49 ((fp1).length) c50 fp1, .rd 1 fp1A fp1.length fp1C fp1, .blk b2 #[.int .i64 fp0, .slice fp1A fp1.length fp1C] 24]) hS462 [2, 0, 1, 3, 4, 5, 6, 7, 8, 9, 10, 11] (by decide) rfl); clear hS462
              refine l_step hE488 rfl (l_call (f := 31) (argv := [.agg #[.int .i64 (((F_UnravelFrame fp0 fp1 wq kq).1).1), .slice b129 ((((F_UnravelFrame fp0 fp1 wq kq).1).2).length) c130], .int .i64 1]) hE488 (fun _ => cf_l_markFrame _ _) rfl rfl (d_l_markFrame (((F_UnravelFrame fp0 fp1 wq kq).1).1) b129 ((((F_UnravelFrame fp0 fp1 wq kq).1).2).length) c130 (((F_UnravelFrame fp0 fp1 wq kq).1).2) 1 w460 w [.own 2 1 b101 ((fp1).length) c102 (marked fp1.length 1), .own 2 1 b283 ((fp1).length) c284 fp1, .blk b144 #[.int .i64 (((F_UnravelFrame fp0 fp1 wq kq).1).1), .slice b129 ((((F_UnravelFrame fp0 fp1 wq kq).1).2).length) c130] 28, .own 2 1 b131 (((F_UnravelFrame fp0 fp1 wq kq).2.1).length) c132 ((F_UnravelFrame fp0 fp1 wq kq).2.1), .blk b104 #[.int .i64 fp0, .slice b101 ((fp1).length) c102] 28, .own 2 1 b62 ((((F_s_UnravelFrame fp0 fp1 wq kq).1).2).length) c63 (((F_s_UnravelFrame fp0 fp1 wq kq).1).2), .blk b76 #[.int .i64 (((F_s_UnravelFrame fp0 fp1 wq kq).1).1), .slice b62 ((((F_s_UnravelFrame fp0 fp1 wq kq).1).2).length) c63] 28, .own 2 1 b64 (((F_s_UnravelFrame fp0 fp1 wq kq).2.1).length) c65 ((F_s_UnravelFrame fp0 fp1 wq kq).2.1), .own 2 1 b49 ((fp1).length) c50 fp1, .rd 1 fp1A fp1.length fp1C fp1, .blk b2 #[.int .i64 fp0, .slice fp1A fp1.length fp1C] 24] hS495 (by first | omega | (simp only [marked_len]; omega) | (simp only [marked_len] at *; omega)) (by first | omega | (simp only [marked_len]; omega) | (simp only [marked_len] at *; omega)) (by first | omega | (simp only [marked_len]; omega) | (simp only [marked_len] at *; omega))) ?_)
              rintro _ w490 ⟨rfl, hS493⟩ a491 hE492; clear hE488 hS495
              refine q_step (v := .int .i64 (1 + ((((F_UnravelFrame fp0 fp1 wq kq).1).2).length : Int))) hE492 (y_assign rfl) rfl rfl rfl ?_; intro a496 hE497; clear hE492
              refine c_nil ?_
              have hE498 := hE497.sub (L' := [(1, .int .i64 wq), (2, .int .i64 kq), (3, .pointer (some ⟨b2, 0, none⟩)), (8, .pointer (some ⟨b76, 0, none⟩)), (9, .slice b64 (((F_s_UnravelFrame fp0 fp1 wq kq).2.1).length) c65), (10, .int .i64 ((F_s_UnravelFrame fp0 fp1 wq kq).2.2)), (12, .pointer (some ⟨b144, 0, none⟩)), (13, .slice b131 (((F_UnravelFrame fp0 fp1 wq kq).2.1).length) c132), (16, .int .i64 (1 + ((((F_UnravelFrame fp0 fp1 wq kq).1).2).length : Int)))]) ⟨rfl, rfl, rfl, rfl, rfl, rfl, rfl, rfl, rfl, trivial⟩; clear hE497
              refine p_tn ?_
              refine c_seq ?_
              refine c_reg ?_
              refine q_step (v := .slice b131 (((F_UnravelFrame fp0 fp1 wq kq).2.1).length) c132) hE498 (y_move rfl) rfl rfl rfl ?_; intro a499 hE500; clear hE498
              refine q_step (v := .int .i64 (1 + ((((F_UnravelFrame fp0 fp1 wq kq).1).2).length : Int))) hE500 (y_move rfl) rfl rfl rfl ?_; intro a501 hE502; clear hE500
              have hS509 := (St.pick (Γ' := [.own 2 1 b131 (((F_UnravelFrame fp0 fp1 wq kq).2.1).length) c132 ((F_UnravelFrame fp0 fp1 wq kq).2.1), .own 2 1 b129 ((((F_UnravelFrame fp0 fp1 wq kq).1).2).length) c130 (marked (((F_UnravelFrame fp0 fp1 wq kq).1).2).length 1), .own 2 1 b101 ((fp1).length) c102 (marked fp1.length 1), .own 2 1 b283 ((fp1).length) c284 fp1, .blk b144 #[.int .i64 (((F_UnravelFrame fp0 fp1 wq kq).1).1), .slice b129 ((((F_UnravelFrame fp0 fp1 wq kq).1).2).length) c130] 28, .blk b104 #[.int .i64 fp0, .slice b101 ((fp1).length) c102] 28, .own 2 1 b62 ((((F_s_UnravelFrame fp0 fp1 wq kq).1).2).length) c63 (((F_s_UnravelFrame fp0 fp1 wq kq).1).2), .blk b76 #[.int .i64 (((F_s_UnravelFrame fp0 fp1 wq kq).1).1), .slice b62 ((((F_s_UnravelFrame fp0 fp1 wq kq).1).2).length) c63] 28, .own 2 1 b64 (((F_s_UnravelFrame fp0 fp1 wq kq).2.1).length) c65 ((F_s_UnravelFrame fp0 fp1 wq kq).2.1), .own 2 1 b49 ((fp1).length) c50 fp1, .rd 1 fp1A fp1.length fp1C fp1, .blk b2 #[.int .i64 fp0, .slice fp1A fp1.length fp1C] 24]) hS493 [4, 0, 1, 2, 3, 5, 6, 7, 8, 9, 10, 11] (by decide) rfl); clear hS493
              refine l_step hE502 rfl (l_call (f := 32) (argv := [.slice b131 (((F_UnravelFrame fp0 fp1 wq kq).2.1).length) c132, .int .i64 (1 + ((((F_UnravelFrame fp0 fp1 wq kq).1).2).length : Int))]) hE502 (fun _ => cf_l_markInt64S _ _) rfl rfl (d_l_markInt64S b131 (((F_UnravelFrame fp0 fp1 wq kq).2.1).length) c132 ((F_UnravelFrame fp0 fp1 wq kq).2.1) (1 + ((((F_UnravelFrame fp0 fp1 wq kq).1).2).length : Int)) w490 w [.own 2 1 b129 ((((F_UnravelFrame fp0 fp1 wq kq).1).2).length) c130 (marked (((F_UnravelFrame fp0 fp1 wq kq).1).2).length 1), .own 2 1 b101 ((fp1).length) c102 (marked fp1.length 1), .own 2 1 b283 ((fp1).length) c284 fp1, .blk b144 #[.int .i64 (((F_UnravelFrame fp0 fp1 wq kq).1).1), .slice b129 ((((F_UnravelFrame fp0 fp1 wq kq).1).2).length) c130] 28, .blk b104 #[.int .i64 fp0, .slice b101 ((fp1).length) c102] 28, .own 2 1 b62 ((((F_s_UnravelFrame fp0 fp1 wq kq).1).2).length) c63 (((F_s_UnravelFrame fp0 fp1 wq kq).1).2), .blk b76 #[.int .i64 (((F_s_UnravelFrame fp0 fp1 wq kq).1).1), .slice b62 ((((F_s_UnravelFrame fp0 fp1 wq kq).1).2).length) c63] 28, .own 2 1 b64 (((F_s_UnravelFrame fp0 fp1 wq kq).2.1).length) c65 ((F_s_UnravelFrame fp0 fp1 wq kq).2.1), .own 2 1 b49 ((fp1).length) c50 fp1, .rd 1 fp1A fp1.length fp1C fp1, .blk b2 #[.int .i64 fp0, .slice fp1A fp1.length fp1C] 24] hS509 (by first | omega | (simp only [marked_len]; omega) | (simp only [marked_len] at *; omega)) (by first | omega | (simp only [marked_len]; omega) | (simp only [marked_len] at *; omega)) (by first | omega | (simp only [marked_len]; omega) | (simp only [marked_len] at *; omega))) ?_)
              rintro _ w504 ⟨rfl, hS507⟩ a505 hE506; clear hE502 hS509
              refine q_step (v := .int .i64 ((1 + ((((F_UnravelFrame fp0 fp1 wq kq).1).2).length : Int)) + (((F_UnravelFrame fp0 fp1 wq kq).2.1).length : Int))) hE506 (y_assign rfl) rfl rfl rfl ?_; intro a510 hE511; clear hE506
              refine c_nil ?_
              have hE512 := hE511.sub (L' := [(1, .int .i64 wq), (2, .int .i64 kq), (3, .pointer (some ⟨b2, 0, none⟩)), (8, .pointer (some ⟨b76, 0, none⟩)), (9, .slice b64 (((F_s_UnravelFrame fp0 fp1 wq kq).2.1).length) c65), (10, .int .i64 ((F_s_UnravelFrame fp0 fp1 wq kq).2.2)), (12, .pointer (some ⟨b144, 0, none⟩)), (13, .slice b131 (((F_UnravelFrame fp0 fp1 wq kq).2.1).length) c132), (16, .int .i64 ((1 + ((((F_UnravelFrame fp0 fp1 wq kq).1).2).length : Int)) + (((F_UnravelFrame fp0 fp1 wq kq).2.1).length : Int)))]) ⟨rfl, rfl, rfl, rfl, rfl, rfl, rfl, rfl, rfl, trivial⟩; clear hE511
              refine p_tn ?_
              refine c_seq ?_
              refine c_reg ?_
              refine q_step (v := .int .i64 1) hE512 (y_assign rfl) rfl rfl rfl ?_; intro a513 hE514; clear hE512
              refine c_nil ?_
              have hE515 := hE514.sub (L' := [(1, .int .i64 wq), (2, .int .i64 kq), (3, .pointer (some ⟨b2, 0, none⟩)), (8, .pointer (some ⟨b76, 0, none⟩)), (9, .slice b64 (((F_s_UnravelFrame fp0 fp1 wq kq).2.1).length) c65), (10, .int .i64 ((F_s_UnravelFrame fp0 fp1 wq kq).2.2)), (12, .pointer (some ⟨b144, 0, none⟩)), (13, .slice b131 (((F_UnravelFrame fp0 fp1 wq kq).2.1).length) c132), (16, .int .i64 ((1 + ((((F_UnravelFrame fp0 fp1 wq kq).1).2).length : Int)) + (((F_UnravelFrame fp0 fp1 wq kq).2.1).length : Int))), (17, .int .i64 1)]) ⟨rfl, rfl, rfl, rfl, rfl, rfl, rfl, rfl, rfl, rfl, trivial⟩; clear hE514
              refine p_tn ?_
              refine c_seq ?_
              refine c_reg ?_
              refine q_step (v := .agg #[.int .i64 (((F_UnravelFrame fp0 fp1 wq kq).1).1), .slice b129 ((((F_UnravelFrame fp0 fp1 wq kq).1).2).length) c130]) hE515 (y_loadS Try.underlying28 rfl (by kernel_rfl) rfl (St.row (i := 4) hS507 rfl)) rfl rfl rfl ?_; intro a516 hE517; clear hE515
              refine q_step (v := .int .i64 1) hE517 (y_move rfl) rfl rfl rfl ?_; intro a518 hE519; clear hE517
              refine l_step hE519 rfl (l_call (f := 33) (argv := [.agg #[.int .i64 (((F_UnravelFrame fp0 fp1 wq kq).1).1), .slice b129 ((((F_UnravelFrame fp0 fp1 wq kq).1).2).length) c130], .int .i64 1]) hE519 (fun _ => cf_l_heldFrame _ _) rfl rfl (c_l_heldFrame (((F_UnravelFrame fp0 fp1 wq kq).1).1) b129 ((((F_UnravelFrame fp0 fp1 wq kq).1).2).length) c130 (marked (((F_UnravelFrame fp0 fp1 wq kq).1).2).length 1) 1 w504 (St.rdO (i := 1) hS507 rfl) (by first | omega | (simp only [marked_len]; omega) | (simp only [marked_len] at *; omega)) (by first | omega | (simp only [marked_len]; omega) | (simp only [marked_len] at *; omega)) (by first | omega | (simp only [marked_len]; omega) | (simp only [marked_len] at *; omega))) ?_)
              rintro _ w521 ⟨rfl, he525⟩ a522 hE523; clear hE519
              have hf526 := heldFrame_le (((F_UnravelFrame fp0 fp1 wq kq).1).1) (marked (((F_UnravelFrame fp0 fp1 wq kq).1).2).length 1) 1
              have hS524 := St.go hS507 he525; clear hS507
              refine q_step (v := .int .i64 (F_l_heldFrame (((F_UnravelFrame fp0 fp1 wq kq).1).1) (marked (((F_UnravelFrame fp0 fp1 wq kq).1).2).length 1) 1)) hE523 (y_assign rfl) rfl rfl rfl ?_; intro a527 hE528; clear hE523
              refine c_nil ?_
              have hE529 := hE528.sub (L' := [(1, .int .i64 wq), (2, .int .i64 kq), (3, .pointer (some ⟨b2, 0, none⟩)), (8, .pointer (some ⟨b76, 0, none⟩)), (9, .slice b64 (((F_s_UnravelFrame fp0 fp1 wq kq).2.1).length) c65), (10, .int .i64 ((F_s_UnravelFrame fp0 fp1 wq kq).2.2)), (12, .pointer (some ⟨b144, 0, none⟩)), (13, .slice b131 (((F_UnravelFrame fp0 fp1 wq kq).2.1).length) c132), (16, .int .i64 ((1 + ((((F_UnravelFrame fp0 fp1 wq kq).1).2).length : Int)) + (((F_UnravelFrame fp0 fp1 wq kq).2.1).length : Int))), (17, .int .i64 (F_l_heldFrame (((F_UnravelFrame fp0 fp1 wq kq).1).1) (marked (((F_UnravelFrame fp0 fp1 wq kq).1).2).length 1) 1))]) ⟨rfl, rfl, rfl, rfl, rfl, rfl, rfl, rfl, rfl, rfl, trivial⟩; clear hE528
              refine p_tn ?_
              refine c_seq ?_
              refine c_seq ?_
              refine c_reg ?_
              refine q_step (v := .int .i64 (F_l_heldFrame (((F_UnravelFrame fp0 fp1 wq kq).1).1) (marked (((F_UnravelFrame fp0 fp1 wq kq).1).2).length 1) 1)) hE529 (y_move rfl) rfl rfl rfl ?_; intro a530 hE531; clear hE529
              refine q_step (v := .bool (decide ((F_l_heldFrame (((F_UnravelFrame fp0 fp1 wq kq).1).1) (marked (((F_UnravelFrame fp0 fp1 wq kq).1).2).length 1) 1) < 0))) hE531 (y_lss rfl rfl) rfl rfl rfl ?_; intro a532 hE533; clear hE531
              refine c_nil ?_
              have hE534 := hE533.sub (L' := [(1, .int .i64 wq), (2, .int .i64 kq), (3, .pointer (some ⟨b2, 0, none⟩)), (8, .pointer (some ⟨b76, 0, none⟩)), (9, .slice b64 (((F_s_UnravelFrame fp0 fp1 wq kq).2.1).length) c65), (10, .int .i64 ((F_s_UnravelFrame fp0 fp1 wq kq).2.2)), (12, .pointer (some ⟨b144, 0, none⟩)), (13, .slice b131 (((F_UnravelFrame fp0 fp1 wq kq).2.1).length) c132), (16, .int .i64 ((1 + ((((F_UnravelFrame fp0 fp1 wq kq).1).2).length : Int)) + (((F_UnravelFrame fp0 fp1 wq kq).2.1).length : Int))), (17, .int .i64 (F_l_heldFrame (((F_UnravelFrame fp0 fp1 wq kq).1).1) (marked (((F_UnravelFrame fp0 fp1 wq kq).1).2).length 1) 1)), (97, .bool (decide ((F_l_heldFrame (((F_UnravelFrame fp0 fp1 wq kq).1).1) (marked (((F_UnravelFrame fp0 fp1 wq kq).1).2).length 1) 1) < 0)))]) ⟨rfl, rfl, rfl, rfl, rfl, rfl, rfl, rfl, rfl, rfl, rfl, trivial⟩; clear hE533
              refine p_tn ?_
              refine c_cond hE534 rfl (fun ht535 => ?_) (fun ht535 => ?_)
              ·
                have hp536 := of_decide_eq_true ht535
                have hE537 := hE534; rw [ht535] at hE537; clear hE534
                refine c_seq ?_
                refine c_reg ?_
                refine q_step (v := .bool false) hE537 (y_assign rfl) rfl rfl rfl ?_; intro a538 hE539; clear hE537
                refine c_nil ?_
                have hE540 := hE539.sub (L' := [(6, .bool false)]) ⟨rfl, trivial⟩; clear hE539
                refine p_tn ?_
                refine wp_ret ?_
                refine p_tr ?_
                have hF : F_l_FnExactUnravelFrame fp0 fp1 wq kq = false := by unfold F_l_FnExactUnravelFrame; rw [ht535, ht463, ht295, ht254, ht32]; first | done | rfl
                refine c_ret1 hE540 rfl rfl ?_
                exact ⟨(by rw [hF]; first | done | rfl), hS524.ext⟩
              ·
                have hp541 := of_decide_eq_false ht535
                have hE542 := hE534; rw [ht535] at hE542; clear hE534
                refine wp_skip ?_
                refine p_tn ?_
                refine c_seq ?_
                refine c_reg ?_
                refine q_step (v := .slice b131 (((F_UnravelFrame fp0 fp1 wq kq).2.1).length) c132) hE542 (y_move rfl) rfl rfl rfl ?_; intro a543 hE544; clear hE542
                refine q_step (v := .int .i64 (F_l_heldFrame (((F_UnravelFrame fp0 fp1 wq kq).1).1) (marked (((F_UnravelFrame fp0 fp1 wq kq).1).2).length 1) 1)) hE544 (y_move rfl) rfl rfl rfl ?_; intro a545 hE546; clear hE544
                refine l_step hE546 rfl (l_call (f := 45) (argv := [.slice b131 (((F_UnravelFrame fp0 fp1 wq kq).2.1).length) c132, .int .i64 (F_l_heldFrame (((F_UnravelFrame fp0 fp1 wq kq).1).1) (marked (((F_UnravelFrame fp0 fp1 wq kq).1).2).length 1) 1)]) hE546 (fun _ => cf_l_heldInt64S _ _) rfl rfl (c_l_heldInt64S b131 (((F_UnravelFrame fp0 fp1 wq kq).2.1).length) c132 (marked ((F_UnravelFrame fp0 fp1 wq kq).2.1).length (1 + ((((F_UnravelFrame fp0 fp1 wq kq).1).2).length : Int))) (F_l_heldFrame (((F_UnravelFrame fp0 fp1 wq kq).1).1) (marked (((F_UnravelFrame fp0 fp1 wq kq).1).2).length 1) 1) w521 (St.rdO (i := 0) hS524 rfl) (by first | omega | (simp only [marked_len]; omega) | (simp only [marked_len] at *; omega)) (by first | omega | (simp only [marked_len]; omega) | (simp only [marked_len] at *; omega)) (by first | omega | (simp only [marked_len]; omega) | (simp only [marked_len] at *; omega))) ?_)
                rintro _ w548 ⟨rfl, he552⟩ a549 hE550; clear hE546
                have hS551 := St.go hS524 he552; clear hS524
                refine q_step (v := .int .i64 (F_l_heldInt64S (marked ((F_UnravelFrame fp0 fp1 wq kq).2.1).length (1 + ((((F_UnravelFrame fp0 fp1 wq kq).1).2).length : Int))) (F_l_heldFrame (((F_UnravelFrame fp0 fp1 wq kq).1).1) (marked (((F_UnravelFrame fp0 fp1 wq kq).1).2).length 1) 1))) hE550 (y_assign rfl) rfl rfl rfl ?_; intro a553 hE554; clear hE550
                refine c_nil ?_
                have hE555 := hE554.sub (L' := [(1, .int .i64 wq), (2, .int .i64 kq), (3, .pointer (some ⟨b2, 0, none⟩)), (8, .pointer (some ⟨b76, 0, none⟩)), (9, .slice b64 (((F_s_UnravelFrame fp0 fp1 wq kq).2.1).length) c65), (10, .int .i64 ((F_s_UnravelFrame fp0 fp1 wq kq).2.2)), (12, .pointer (some ⟨b144, 0, none⟩)), (13, .slice b131 (((F_UnravelFrame fp0 fp1 wq kq).2.1).length) c132), (16, .int .i64 ((1 + ((((F_UnravelFrame fp0 fp1 wq kq).1).2).length : Int)) + (((F_UnravelFrame fp0 fp1 wq kq).2.1).length : Int))), (17, .int .i64 (F_l_heldInt64S (marked ((F_UnravelFrame fp0 fp1 wq kq).2.1).length (1 + ((((F_UnravelFrame fp0 fp1 wq kq).1).2).length : Int))) (F_l_heldFrame (((F_UnravelFrame fp0 fp1 wq kq).1).1) (marked (((F_UnravelFrame fp0 fp1 wq kq).1).2).length 1) 1)))]) ⟨rfl, rfl, rfl, rfl, rfl, rfl, rfl, rfl, rfl, rfl, trivial⟩; clear hE554
                refine p_tn ?_
                refine c_seq ?_
                refine c_seq ?_
                refine c_reg ?_
                refine q_step (v := .int .i64 (F_l_heldInt64S (marked ((F_UnravelFrame fp0 fp1 wq kq).2.1).length (1 + ((((F_UnravelFrame fp0 fp1 wq kq).1).2).length : Int))) (F_l_heldFrame (((F_UnravelFrame fp0 fp1 wq kq).1).1) (marked (((F_UnravelFrame fp0 fp1 wq kq).1).2).length 1) 1))) hE555 (y_move rfl) rfl rfl rfl ?_; intro a556 hE557; clear hE555
                refine q_step (v := .bool (decide ((F_l_heldInt64S (marked ((F_UnravelFrame fp0 fp1 wq kq).2.1).length (1 + ((((F_UnravelFrame fp0 fp1 wq kq).1).2).length : Int))) (F_l_heldFrame (((F_UnravelFrame fp0 fp1 wq kq).1).1) (marked (((F_UnravelFrame fp0 fp1 wq kq).1).2).length 1) 1)) < 0))) hE557 (y_lss rfl rfl) rfl rfl rfl ?_; intro a558 hE559; clear hE557
                refine c_nil ?_
                have hE560 := hE559.sub (L' := [(1, .int .i64 wq), (2, .int .i64 kq), (3, .pointer (some ⟨b2, 0, none⟩)), (8, .pointer (some ⟨b76, 0, none⟩)), (9, .slice b64 (((F_s_UnravelFrame fp0 fp1 wq kq).2.1).length) c65), (10, .int .i64 ((F_s_UnravelFrame fp0 fp1 wq kq).2.2)), (12, .pointer (some ⟨b144, 0, none⟩)), (13, .slice b131 (((F_UnravelFrame fp0 fp1 wq kq).2.1).length) c132), (16, .int .i64 ((1 + ((((F_UnravelFrame fp0 fp1 wq kq).1).2).length : Int)) + (((F_UnravelFrame fp0 fp1 wq kq).2.1).length : Int))), (17, .int .i64 (F_l_heldInt64S (marked ((F_UnravelFrame fp0 fp1 wq kq).2.1).length (1 + ((((F_UnravelFrame fp0 fp1 wq kq).1).2).length : Int))) (F_l_heldFrame (((F_UnravelFrame fp0 fp1 wq kq).1).1) (marked (((F_UnravelFrame fp0 fp1 wq kq).1).2).length 1) 1))), (102, .bool (decide ((F_l_heldInt64S (marked ((F_UnravelFrame fp0 fp1 wq kq).2.1).length (1 + ((((F_UnravelFrame fp0 fp1 wq kq).1).2).length : Int))) (F_l_heldFrame (((F_UnravelFrame fp0 fp1 wq kq).1).1) (marked (((F_UnravelFrame fp0 fp1 wq kq).1).2).length 1) 1)) < 0)))]) ⟨rfl, rfl, rfl, rfl, rfl, rfl, rfl, rfl, rfl, rfl, rfl, trivial⟩; clear hE559
                refine p_tn ?_
                refine c_cond hE560 rfl (fun ht561 => ?_) (fun ht561 => ?_)
                ·
                  have hp562 := of_decide_eq_true ht561
                  have hE563 := hE560; rw [ht561] at hE563; clear hE560
                  refine c_seq ?_
                  refine c_reg ?_
                  refine q_step (v := .bool false) hE563 (y_assign rfl) rfl rfl rfl ?_; intro a564 hE565; clear hE563
                  refine c_nil ?_
                  have hE566 := hE565.sub (L' := [(6, .bool false)]) ⟨rfl, trivial⟩; clear hE565
                  refine p_tn ?_
                  refine wp_ret ?_
                  refine p_tr ?_
                  have hF : F_l_FnExactUnravelFrame fp0 fp1 wq kq = false := by unfold F_l_FnExactUnravelFrame; rw [ht561, ht535, ht463, ht295, ht254, ht32]; first | done | rfl
                  refine c_ret1 hE566 rfl rfl ?_
                  exact ⟨(by rw [hF]; first | done | rfl), hS551.ext⟩
                ·
                  have hp567 := of_decide_eq_false ht561
                  have hE568 := hE560; rw [ht561] at hE568; clear hE560
                  refine wp_skip ?_
                  refine p_tn ?_
                  refine c_seq ?_
                  refine c_seq ?_
                  refine c_reg ?_
                  refine q_step (v := .int .i64 (F_l_heldInt64S (marked ((F_UnravelFrame fp0 fp1 wq kq).2.1).length (1 + ((((F_UnravelFrame fp0 fp1 wq kq).1).2).length : Int))) (F_l_heldFrame (((F_UnravelFrame fp0 fp1 wq kq).1).1) (marked (((F_UnravelFrame fp0 fp1 wq kq).1).2).length 1) 1))) hE568 (y_move rfl) rfl rfl rfl ?_; intro a569 hE570; clear hE568
                  refine q_step (v := .int .i64 ((1 + ((((F_UnravelFrame fp0 fp1 wq kq).1).2).length : Int)) + (((F_UnravelFrame fp0 fp1 wq kq).2.1).length : Int))) hE570 (y_move rfl) rfl rfl rfl ?_; intro a571 hE572; clear hE570
                  refine q_step (v := .bool (!decide ((F_l_heldInt64S (marked ((F_UnravelFrame fp0 fp1 wq kq).2.1).length (1 + ((((F_UnravelFrame fp0 fp1 wq kq).1).2).length : Int))) (F_l_heldFrame (((F_UnravelFrame fp0 fp1 wq kq).1).1) (marked (((F_UnravelFrame fp0 fp1 wq kq).1).2).length 1) 1)) = ((1 + ((((F_UnravelFrame fp0 fp1 wq kq).1).2).length : Int)) + (((F_UnravelFrame fp0 fp1 wq kq).2.1).length : Int))))) hE572 (y_neq rfl rfl) rfl rfl rfl ?_; intro a573 hE574; clear hE572
                  refine c_nil ?_
                  have hE575 := hE574.sub (L' := [(1, .int .i64 wq), (2, .int .i64 kq), (3, .pointer (some ⟨b2, 0, none⟩)), (8, .pointer (some ⟨b76, 0, none⟩)), (9, .slice b64 (((F_s_UnravelFrame fp0 fp1 wq kq).2.1).length) c65), (10, .int .i64 ((F_s_UnravelFrame fp0 fp1 wq kq).2.2)), (12, .pointer (some ⟨b144, 0, none⟩)), (13, .slice b131 (((F_UnravelFrame fp0 fp1 wq kq).2.1).length) c132), (16, .int .i64 ((1 + ((((F_UnravelFrame fp0 fp1 wq kq).1).2).length : Int)) + (((F_UnravelFrame fp0 fp1 wq kq).2.1).length : Int))), (105, .bool (!decide ((F_l_heldInt64S (marked ((F_UnravelFrame fp0 fp1 wq kq).2.1).length (1 + ((((F_UnravelFrame fp0 fp1 wq kq).1).2).length : Int))) (F_l_heldFrame (((F_UnravelFrame fp0 fp1 wq kq).1).1) (marked (((F_UnravelFrame fp0 fp1 wq kq).1).2).length 1) 1)) = ((1 + ((((F_UnravelFrame fp0 fp1 wq kq).1).2).length : Int)) + (((F_UnravelFrame fp0 fp1 wq kq).2.1).length : Int)))))]) ⟨rfl, rfl, rfl, rfl, rfl, rfl, rfl, rfl, rfl, rfl, trivial⟩; clear hE574
                  refine p_tn ?_
                  refine c_cond hE575 rfl (fun ht576 => ?_) (fun ht576 => ?_)
                  ·
                    have ht577 := bn_t ht576
                    have hp578 := of_decide_eq_false ht577
                    have hE579 := hE575; rw [ht576] at hE579; clear hE575
                    refine c_seq ?_
                    refine c_reg ?_
                    refine q_step (v := .bool false) hE579 (y_assign rfl) rfl rfl rfl ?_; intro a580 hE581; clear hE579
                    refine c_nil ?_
                    have hE582 := hE581.sub (L' := [(6, .bool false)]) ⟨rfl, trivial⟩; clear hE581
                    refine p_tn ?_
                    refine wp_ret ?_
                    refine p_tr ?_
                    have hF : F_l_FnExactUnravelFrame fp0 fp1 wq kq = false := by unfold F_l_FnExactUnravelFrame; rw [ht576, ht561, ht535, ht463, ht295, ht254, ht32]; first | done | rfl
                    refine c_ret1 hE582 rfl rfl ?_
                    exact ⟨(by rw [hF]; first | done | rfl), hS551.ext⟩
                  ·
                    have ht583 := bn_f ht576
                    have hp584 := of_decide_eq_true ht583
                    have hE585 := hE575; rw [ht576] at hE585; clear hE575
                    refine wp_skip ?_
                    refine p_tn ?_
                    refine c_seq ?_
                    refine c_reg ?_
                    refine q_step (v := .agg #[.int .i64 fp0, .slice fp1A fp1.length fp1C]) hE585 (y_loadS Try.underlying24 rfl (by kernel_rfl) rfl (St.row (i := 11) hS551 rfl)) rfl rfl rfl ?_; intro a586 hE587; clear hE585
                    refine l_step hE587 rfl (l_call (f := 17) (argv := [.agg #[.int .i64 fp0, .slice fp1A fp1.length fp1C]]) hE587 (fun _ => cf_l_toFrame _ _) rfl rfl (d_l_toFrame fp0 fp1A fp1.length fp1C fp1 w548 (St.rdR (i := 10) hS551 rfl) (by first | omega | (simp only [marked_len]; omega) | (simp only [marked_len] at *; omega))) ?_)
                    rintro _ w589 ⟨b594, c595, rfl, ho596, he593⟩ a590 hE591; clear hE587
                    have hS592 := St.own hS551 he593 ho596; clear hS551
                    refine q_step (v := .int .i64 wq) hE591 (y_move rfl) rfl rfl rfl ?_; intro a597 hE598; clear hE591
                    refine q_step (v := .int .i64 kq) hE598 (y_move rfl) rfl rfl rfl ?_; intro a599 hE600; clear hE598
                    refine l_step hE600 rfl (l_call (f := 49) (argv := [.agg #[.int .i64 fp0, .slice b594 ((fp1).length) c595], .int .i64 wq, .int .i64 kq]) hE600 (fun _ => cf_UnravelFrame _ _) rfl rfl (c_UnravelFrame fp0 b594 ((fp1).length) c595 fp1 wq kq w589 (St.rdO (i := 0) hS592 rfl)) ?_)
                    rintro _ w602 ⟨b607, c608, b609, c610, rfl, ho611, he606⟩ a603 hE604; clear hE600
                    have hf613 := UnravelFrame_len fp0 fp1 wq kq
                    have hS605 := St.push2 hS592 he606 ho611; clear hS592
                    refine q_step (v := .tuple #[.agg #[.int .i64 (((F_UnravelFrame fp0 fp1 wq kq).1).1), .slice b607 ((((F_UnravelFrame fp0 fp1 wq kq).1).2).length) c608], .slice b609 (((F_UnravelFrame fp0 fp1 wq kq).2.1).length) c610, .int .i64 ((F_UnravelFrame fp0 fp1 wq kq).2.2)]) hE604 (y_move rfl) rfl rfl rfl ?_; intro a614 hE615; clear hE604
                    refine q_step (v := .agg #[.int .i64 (((F_UnravelFrame fp0 fp1 wq kq).1).1), .slice b607 ((((F_UnravelFrame fp0 fp1 wq kq).1).2).length) c608]) hE615 (y_extract rfl rfl) rfl rfl rfl ?_; intro a616 hE617; clear hE615
                    refine q_step (v := .slice b609 (((F_UnravelFrame fp0 fp1 wq kq).2.1).length) c610) hE617 (y_extract rfl rfl) rfl rfl rfl ?_; intro a618 hE619; clear hE617
                    refine q_step (v := .int .i64 ((F_UnravelFrame fp0 fp1 wq kq).2.2)) hE619 (y_extract rfl rfl) rfl rfl rfl ?_; intro a620 hE621; clear hE619
                    refine l_step hE621 rfl (l_alloc (z := .agg #[.int .i64 0, .slice none 0 0]) (cs := #[.int .i64 0, .slice none 0 0]) hS605 hE621 (fun _ => by kernel_rfl) rfl rfl ?_)
                    intro b622 w623 hS626 he627 a624 hE625; clear hS605 hE621
                    refine l_step hE625 rfl (l_storeS (k := 0) (cs' := #[.int .i64 (((F_UnravelFrame fp0 fp1 wq kq).1).1), .slice b607 ((((F_UnravelFrame fp0 fp1 wq kq).1).2).length) c608]) hS626 hE625 (by kernel_rfl) rfl rfl (by kernel_rfl) rfl rfl ?_)
                    intro w629 hS632 a630 hE631; clear hS626 hE625
                    refine q_step (v := .slice b609 (((F_UnravelFrame fp0 fp1 wq kq).2.1).length) c610) hE631 (y_assign rfl) rfl rfl rfl ?_; intro a634 hE635; clear hE631
                    refine q_step (v := .int .i64 ((F_UnravelFrame fp0 fp1 wq kq).2.2)) hE635 (y_assign rfl) rfl rfl rfl ?_; intro a636 hE637; clear hE635
                    refine c_nil ?_
                    have hE638 := hE637.sub (L' := [(8, .pointer (some ⟨b76, 0, none⟩)), (9, .slice b64 (((F_s_UnravelFrame fp0 fp1 wq kq).2.1).length) c65), (10, .int .i64 ((F_s_UnravelFrame fp0 fp1 wq kq).2.2)), (12, .pointer (some ⟨b144, 0, none⟩)), (13, .slice b131 (((F_UnravelFrame fp0 fp1 wq kq).2.1).length) c132), (16, .int .i64 ((1 + ((((F_UnravelFrame fp0 fp1 wq kq).1).2).length : Int)) + (((F_UnravelFrame fp0 fp1 wq kq).2.1).length : Int))), (18, .pointer (some ⟨b622, 0, none⟩)), (19, .slice b609 (((F_UnravelFrame fp0 fp1 wq kq).2.1).length) c610), (20, .int .i64 ((F_UnravelFrame fp0 fp1 wq kq).2.2))]) ⟨rfl, rfl, rfl, rfl, rfl, rfl, rfl, rfl, rfl, trivial⟩; clear hE637
                    refine p_tn ?_
                    refine c_seq ?_
                    refine c_cut (fun a' w' => E a' 143 [(12, .pointer (some ⟨b144, 0, none⟩)), (13, .slice b131 (((F_UnravelFrame fp0 fp1 wq kq).2.1).length) c132), (16, .int .i64 ((1 + ((((F_UnravelFrame fp0 fp1 wq kq).1).2).length : Int)) + (((F_UnravelFrame fp0 fp1 wq kq).2.1).length : Int))), (129, .bool ((!(decide (((((F_UnravelFrame fp0 fp1 wq kq).1).1), (((F_UnravelFrame fp0 fp1 wq kq).1).2)) = ((((F_s_UnravelFrame fp0 fp1 wq kq).1).1), (((F_s_UnravelFrame fp0 fp1 wq kq).1).2))))) || ((!(decide (((F_UnravelFrame fp0 fp1 wq kq).2.1) = ((F_s_UnravelFrame fp0 fp1 wq kq).2.1)))) || (!decide (((F_UnravelFrame fp0 fp1 wq kq).2.2) = ((F_s_UnravelFrame fp0 fp1 wq kq).2.2))))))] ∧ St w w' [.own 2 1 b607 ((((F_UnravelFrame fp0 fp1 wq kq).1).2).length) c608 (((F_UnravelFrame fp0 fp1 wq kq).1).2), .blk b622 #[.int .i64 (((F_UnravelFrame fp0 fp1 wq kq).1).1), .slice b607 ((((F_UnravelFrame fp0 fp1 wq kq).1).2).length) c608] 28, .own 2 1 b609 (((F_UnravelFrame fp0 fp1 wq kq).2.1).length) c610 ((F_UnravelFrame fp0 fp1 wq kq).2.1), .own 2 1 b594 ((fp1).length) c595 fp1, .own 2 1 b131 (((F_UnravelFrame fp0 fp1 wq kq).2.1).length) c132 (marked ((F_UnravelFrame fp0 fp1 wq kq).2.1).length (1 + ((((F_UnravelFrame fp0 fp1 wq kq).1).2).length : Int))), .own 2 1 b129 ((((F_UnravelFrame fp0 fp1 wq kq).1).2).length) c130 (marked (((F_UnravelFrame fp0 fp1 wq kq).1).2).length 1), .own 2 1 b101 ((fp1).length) c102 (marked fp1.length 1), .own 2 1 b283 ((fp1).length) c284 fp1, .blk b144 #[.int .i64 (((F_UnravelFrame fp0 fp1 wq kq).1).1), .slice b129 ((((F_UnravelFrame fp0 fp1 wq kq).1).2).length) c130] 28, .blk b104 #[.int .i64 fp0, .slice b101 ((fp1).length) c102] 28, .own 2 1 b62 ((((F_s_UnravelFrame fp0 fp1 wq kq).1).2).length) c63 (((F_s_UnravelFrame fp0 fp1 wq kq).1).2), .blk b76 #[.int .i64 (((F_s_UnravelFrame fp0 fp1 wq kq).1).1), .slice b62 ((((F_s_UnravelFrame fp0 fp1 wq kq).1).2).length) c63] 28, .own 2 1 b64 (((F_s_UnravelFrame fp0 fp1 wq kq).2.1).length) c65 ((F_s_UnravelFrame fp0 fp1 wq kq).2.1), .own 2 1 b49 ((fp1).length) c50 fp1, .rd 1 fp1A fp1.length fp1C fp1, .blk b2 #[.int .i64 fp0, .slice fp1A fp1.length fp1C] 24]) ?_ ?_
                    ·
                      refine c_reg ?_
                      refine q_step (v := .agg #[.int .i64 (((F_UnravelFrame fp0 fp1 wq kq).1).1), .slice b607 ((((F_UnravelFrame fp0 fp1 wq kq).1).2).length) c608]) hE638 (y_loadS Try.underlying28 rfl (by kernel_rfl) rfl (St.row (i := 0) hS632 rfl)) rfl rfl rfl ?_; intro a639 hE640; clear hE638
                      refine q_step (v := .agg #[.int .i64 (((F_s_UnravelFrame fp0 fp1 wq kq).1).1), .slice b62 ((((F_s_UnravelFrame fp0 fp1 wq kq).1).2).length) c63]) hE640 (y_loadS Try.underlying28 rfl (by kernel_rfl) rfl (St.row (i := 11) hS632 rfl)) rfl rfl rfl ?_; intro a641 hE642; clear hE640
                      refine l_step hE642 rfl (l_call (f := 20) (argv := [.agg #[.int .i64 (((F_UnravelFrame fp0 fp1 wq kq).1).1), .slice b607 ((((F_UnravelFrame fp0 fp1 wq kq).1).2).length) c608], .agg #[.int .i64 (((F_s_UnravelFrame fp0 fp1 wq kq).1).1), .slice b62 ((((F_s_UnravelFrame fp0 fp1 wq kq).1).2).length) c63]]) hE642 (fun _ => cf_l_eqFrame _ _) rfl rfl (d_l_eqFrame (((F_UnravelFrame fp0 fp1 wq kq).1).1) b607 ((((F_UnravelFrame fp0 fp1 wq kq).1).2).length) c608 (((F_UnravelFrame fp0 fp1 wq kq).1).2) (((F_s_UnravelFrame fp0 fp1 wq kq).1).1) b62 ((((F_s_UnravelFrame fp0 fp1 wq kq).1).2).length) c63 (((F_s_UnravelFrame fp0 fp1 wq kq).1).2) w629 (St.rdO (i := 1) hS632 rfl) (St.rdO (i := 10) hS632 rfl)) ?_)
                      rintro _ w644 ⟨rfl, he648⟩ a645 hE646; clear hE642
                      have hS647 := St.go hS632 he648; clear hS632
                      refine q_step (v := .bool (!(decide (((((F_UnravelFrame fp0 fp1 wq kq).1).1), (((F_UnravelFrame fp0 fp1 wq kq).1).2)) = ((((F_s_UnravelFrame fp0 fp1 wq kq).1).1), (((F_s_UnravelFrame fp0 fp1 wq kq).1).2)))))) hE646 (y_not rfl) rfl rfl rfl ?_; intro a649 hE650; clear hE646
                      refine q_step (v := .bool (!(decide (((((F_UnravelFrame fp0 fp1 wq kq).1).1), (((F_UnravelFrame fp0 fp1 wq kq).1).2)) = ((((F_s_UnravelFrame fp0 fp1 wq kq).1).1), (((F_s_UnravelFrame fp0 fp1 wq kq).1).2)))))) hE650 (y_move rfl) rfl rfl rfl ?_; intro a651 hE652; clear hE650
                      rcases Bool.eq_false_or_eq_true (!(decide (((((F_UnravelFrame fp0 fp1 wq kq).1).1), (((F_UnravelFrame fp0 fp1 wq kq).1).2)) = ((((F_s_UnravelFrame fp0 fp1 wq kq).1).1), (((F_s_UnravelFrame fp0 fp1 wq kq).1).2))))) with hb653 | hb653
                      ·
                        have hE654 := hE652; rw [hb653] at hE654; clear hE652
                        have ht655 := bn_t hb653
                        have hp656 := of_decide_eq_false ht655
                        refine q_skip hE654 rfl rfl rfl ?_; intro a657 hE658; clear hE654
                        refine q_skip hE658 rfl rfl rfl ?_; intro a659 hE660; clear hE658
                        refine q_skip hE660 rfl rfl rfl ?_; intro a661 hE662; clear hE660
                        refine q_skip hE662 rfl rfl rfl ?_; intro a663 hE664; clear hE662
                        refine q_step (v := .bool true) hE664 (y_pick (b := true) rfl rfl) rfl rfl rfl ?_; intro a665 hE666; clear hE664
                        refine q_step (v := .bool true) hE666 (y_move rfl) rfl rfl rfl ?_; intro a667 hE668; clear hE666
                        refine q_skip hE668 rfl rfl rfl ?_; intro a669 hE670; clear hE668
                        refine q_skip hE670 rfl rfl rfl ?_; intro a671 hE672; clear hE670
                        refine q_skip hE672 rfl rfl rfl ?_; intro a673 hE674; clear hE672
                        refine q_step (v := .bool true) hE674 (y_pick (b := true) rfl rfl) rfl rfl rfl ?_; intro a675 hE676; clear hE674
                        refine c_nil ?_
                        have hE677 := hE676.sub (L' := [(12, .pointer (some ⟨b144, 0, none⟩)), (13, .slice b131 (((F_UnravelFrame fp0 fp1 wq kq).2.1).length) c132), (16, .int .i64 ((1 + ((((F_UnravelFrame fp0 fp1 wq kq).1).2).length : Int)) + (((F_UnravelFrame fp0 fp1 wq kq).2.1).length : Int))), (129, .bool true)]) ⟨rfl, rfl, rfl, rfl, trivial⟩; clear hE676
                        refine p_tn ?_
                        have hE678 := hE677.sub (L' := [(12, .pointer (some ⟨b144, 0, none⟩)), (13, .slice b131 (((F_UnravelFrame fp0 fp1 wq kq).2.1).length) c132), (16, .int .i64 ((1 + ((((F_UnravelFrame fp0 fp1 wq kq).1).2).length : Int)) + (((F_UnravelFrame fp0 fp1 wq kq).2.1).length : Int))), (129, .bool true)]) ⟨rfl, rfl, rfl, rfl, trivial⟩
                        have hS679 := (St.pick (Γ' := [.own 2 1 b607 ((((F_UnravelFrame fp0 fp1 wq kq).1).2).length) c608 (((F_UnravelFrame fp0 fp1 wq kq).1).2), .blk b622 #[.int .i64 (((F_UnravelFrame fp0 fp1 wq kq).1).1), .slice b607 ((((F_UnravelFrame fp0 fp1 wq kq).1).2).length) c608] 28, .own 2 1 b609 (((F_UnravelFrame fp0 fp1 wq kq).2.1).length) c610 ((F_UnravelFrame fp0 fp1 wq kq).2.1), .own 2 1 b594 ((fp1).length) c595 fp1, .own 2 1 b131 (((F_UnravelFrame fp0 fp1 wq kq).2.1).length) c132 (marked ((F_UnravelFrame fp0 fp1 wq kq).2.1).length (1 + ((((F_UnravelFrame fp0 fp1 wq kq).1).2).length : Int))), .own 2 1 b129 ((((F_UnravelFrame fp0 fp1 wq kq).1).2).length) c130 (marked (((F_UnravelFrame fp0 fp1 wq kq).1).2).length 1), .own 2 1 b101 ((fp1).length) c102 (marked fp1.length 1), .own 2 1 b283 ((fp1).length) c284 fp1, .blk b144 #[.int .i64 (((F_UnravelFrame fp0 fp1 wq kq).1).1), .slice b129 ((((F_UnravelFrame fp0 fp1 wq kq).1).2).length) c130] 28, .blk b104 #[.int .i64 fp0, .slice b101 ((fp1).length) c102] 28, .own 2 1 b62 ((((F_s_UnravelFrame fp0 fp1 wq kq).1).2).length) c63 (((F_s_UnravelFrame fp0 fp1 wq kq).1).2), .blk b76 #[.int .i64 (((F_s_UnravelFrame fp0 fp1 wq kq).1).1), .slice b62 ((((F_s_UnravelFrame fp0 fp1 wq kq).1).2).length) c63] 28, .own 2 1 b64 (((F_s_UnravelFrame fp0 fp1 wq kq).2.1).length) c65 ((F_s_UnravelFrame fp0 fp1 wq kq).2.1), .own 2 1 b49 ((fp1).length) c50 fp1, .rd 1 fp1A fp1.length fp1C fp1, .blk b2 #[.int .i64 fp0, .slice fp1A fp1.length fp1C] 24]) hS647 [1, 0, 2, 3, 4, 5, 6, 7, 8, 9, 10, 11, 12, 13, 14, 15] (by decide) rfl)
                        exact ⟨(by rw [hb653]; exact hE678), hS679⟩
                      ·
                        have hE680 := hE652; rw [hb653] at hE680; clear hE652
                        have ht681 := bn_f hb653
                        have hp682 := of_decide_eq_true ht681
                        refine q_step (v := .slice b609 (((F_UnravelFrame fp0 fp1 wq kq).2.1).length) c610) hE680 (y_move rfl) rfl rfl rfl ?_; intro a683 hE684; clear hE680
                        refine q_step (v := .slice b64 (((F_s_UnravelFrame fp0 fp1 wq kq).2.1).length) c65) hE684 (y_move rfl) rfl rfl rfl ?_; intro a685 hE686; clear hE684
                        refine l_step hE686 rfl (l_call (f := 21) (argv := [.slice b609 (((F_UnravelFrame fp0 fp1 wq kq).2.1).length) c610, .slice b64 (((F_s_UnravelFrame fp0 fp1 wq kq).2.1).length) c65]) hE686 (fun _ => cf_l_eqInt64S _ _) rfl rfl (d_l_eqInt64S b609 (((F_UnravelFrame fp0 fp1 wq kq).2.1).length) c610 ((F_UnravelFrame fp0 fp1 wq kq).2.1) b64 (((F_s_UnravelFrame fp0 fp1 wq kq).2.1).length) c65 ((F_s_UnravelFrame fp0 fp1 wq kq).2.1) w644 (St.rdO (i := 2) hS647 rfl) (St.rdO (i := 12) hS647 rfl)) ?_)
                        rintro _ w688 ⟨rfl, he692⟩ a689 hE690; clear hE686
                        have hS691 := St.go hS647 he692; clear hS647
                        refine q_step (v := .bool (!(decide (((F_UnravelFrame fp0 fp1 wq kq).2.1) = ((F_s_UnravelFrame fp0 fp1 wq kq).2.1))))) hE690 (y_not rfl) rfl rfl rfl ?_; intro a693 hE694; clear hE690
                        refine q_step (v := .bool (!(decide (((F_UnravelFrame fp0 fp1 wq kq).2.1) = ((F_s_UnravelFrame fp0 fp1 wq kq).2.1))))) hE694 (y_pick (b := false) rfl rfl) rfl rfl rfl ?_; intro a695 hE696; clear hE694
                        refine q_step (v := .bool (!(decide (((F_UnravelFrame fp0 fp1 wq kq).2.1) = ((F_s_UnravelFrame fp0 fp1 wq kq).2.1))))) hE696 (y_move rfl) rfl rfl rfl ?_; intro a697 hE698; clear hE696
                        rcases Bool.eq_false_or_eq_true (!(decide (((F_UnravelFrame fp0 fp1 wq kq).2.1) = ((F_s_UnravelFrame fp0 fp1 wq kq).2.1)))) with hb699 | hb699
                        ·
                          have hE700 := hE698; rw [hb699] at hE700; clear hE698
                          have ht701 := bn_t hb699
                          have hp702 := of_decide_eq_false ht701
                          refine q_skip hE700 rfl rfl rfl ?_; intro a703 hE704; clear hE700
                          refine q_skip hE704 rfl rfl rfl ?_; intro a705 hE706; clear hE704
                          refine q_skip hE706 rfl rfl rfl ?_; intro a707 hE708; clear hE706
                          refine q_step (v := .bool true) hE708 (y_pick (b := true) rfl rfl) rfl rfl rfl ?_; intro a709 hE710; clear hE708
                          refine c_nil ?_
                          have hE711 := hE710.sub (L' := [(12, .pointer (some ⟨b144, 0, none⟩)), (13, .slice b131 (((F_UnravelFrame fp0 fp1 wq kq).2.1).length) c132), (16, .int .i64 ((1 + ((((F_UnravelFrame fp0 fp1 wq kq).1).2).length : Int)) + (((F_UnravelFrame fp0 fp1 wq kq).2.1).length : Int))), (129, .bool true)]) ⟨rfl, rfl, rfl, rfl, trivial⟩; clear hE710
                          refine p_tn ?_
                          have hE712 := hE711.sub (L' := [(12, .pointer (some ⟨b144, 0, none⟩)), (13, .slice b131 (((F_UnravelFrame fp0 fp1 wq kq).2.1).length) c132), (16, .int .i64 ((1 + ((((F_UnravelFrame fp0 fp1 wq kq).1).2).length : Int)) + (((F_UnravelFrame fp0 fp1 wq kq).2.1).length : Int))), (129, .bool true)]) ⟨rfl, rfl, rfl, rfl, trivial⟩
                          have hS713 := (St.pick (Γ' := [.own 2 1 b607 ((((F_UnravelFrame fp0 fp1 wq kq).1).2).length) c608 (((F_UnravelFrame fp0 fp1 wq kq).1).2), .blk b622 #[.int .i64 (((F_UnravelFrame fp0 fp1 wq kq).1).1), .slice b607 ((((F_UnravelFrame fp0 fp1 wq kq).1).2).length) c608] 28, .own 2 1 b609 (((F_UnravelFrame fp0 fp1 wq kq).2.1).length) c610 ((F_UnravelFrame fp0 fp1 wq kq).2.1), .own 2 1 b594 ((fp1).length) c595 fp1, .own 2 1 b131 (((F_UnravelFrame fp0 fp1 wq kq).2.1).length) c132 (marked ((F_UnravelFrame fp0 fp1 wq kq).2.1).length (1 + ((((F_UnravelFrame fp0 fp1 wq kq).1).2).length : Int))), .own 2 1 b129 ((((F_UnravelFrame fp0 fp1 wq kq).1).2).length) c130 (marked (((F_UnravelFrame fp0 fp1 wq kq).1).2).length 1), .own 2 1 b101 ((fp1).length) c102 (marked fp1.length 1), .own 2 1 b283 ((fp1).length) c284 fp1, .blk b144 #[.int .i64 (((F_UnravelFrame fp0 fp1 wq kq).1).1), .slice b129 ((((F_UnravelFrame fp0 fp1 wq kq).1).2).length) c130] 28, .blk b104 #[.int .i64 fp0, .slice b101 ((fp1).length) c102] 28, .own 2 1 b62 ((((F_s_UnravelFrame fp0 fp1 wq kq).1).2).length) c63 (((F_s_UnravelFrame fp0 fp1 wq kq).1).2), .blk b76 #[.int .i64 (((F_s_UnravelFrame fp0 fp1 wq kq).1).1), .slice b62 ((((F_s_UnravelFrame fp0 fp1 wq kq).1).2).length) c63] 28, .own 2 1 b64 (((F_s_UnravelFrame fp0 fp1 wq kq).2.1).length) c65 ((F_s_UnravelFrame fp0 fp1 wq kq).2.1), .own 2 1 b49 ((fp1).length) c50 fp1, .rd 1 fp1A fp1.length fp1C fp1, .blk b2 #[.int .i64 fp0, .slice fp1A fp1.length fp1C] 24]) hS691 [1, 0, 2, 3, 4, 5, 6, 7, 8, 9, 10, 11, 12, 13, 14, 15] (by decide) rfl)
                          exact ⟨(by rw [hb699, hb653]; exact hE712), hS713⟩
                        ·
                          have hE714 := hE698; rw [hb699] at hE714; clear hE698
                          have ht715 := bn_f hb699
                          have hp716 := of_decide_eq_true ht715
                          refine q_step (v := .int .i64 ((F_UnravelFrame fp0 fp1 wq kq).2.2)) hE714 (y_move rfl) rfl rfl rfl ?_; intro a717 hE718; clear hE714
                          refine q_step (v := .int .i64 ((F_s_UnravelFrame fp0 fp1 wq kq).2.2)) hE718 (y_move rfl) rfl rfl rfl ?_; intro a719 hE720; clear hE718
                          refine q_step (v := .bool (!decide (((F_UnravelFrame fp0 fp1 wq kq).2.2) = ((F_s_UnravelFrame fp0 fp1 wq kq).2.2)))) hE720 (y_neq rfl rfl) rfl rfl rfl ?_; intro a721 hE722; clear hE720
                          refine q_step (v := .bool (!decide (((F_UnravelFrame fp0 fp1 wq kq).2.2) = ((F_s_UnravelFrame fp0 fp1 wq kq).2.2)))) hE722 (y_pick (b := false) rfl rfl) rfl rfl rfl ?_; intro a723 hE724; clear hE722
                          refine c_nil ?_
                          have hE725 := hE724.sub (L' := [(12, .pointer (some ⟨b144, 0, none⟩)), (13, .slice b131 (((F_UnravelFrame fp0 fp1 wq kq).2.1).length) c132), (16, .int .i64 ((1 + ((((F_UnravelFrame fp0 fp1 wq kq).1).2).length : Int)) + (((F_UnravelFrame fp0 fp1 wq kq).2.1).length : Int))), (129, .bool (!decide (((F_UnravelFrame fp0 fp1 wq kq).2.2) = ((F_s_UnravelFrame fp0 fp1 wq kq).2.2))))]) ⟨rfl, rfl, rfl, rfl, trivial⟩; clear hE724
                          refine p_tn ?_
                          have hE726 := hE725.sub (L' := [(12, .pointer (some ⟨b144, 0, none⟩)), (13, .slice b131 (((F_UnravelFrame fp0 fp1 wq kq).2.1).length) c132), (16, .int .i64 ((1 + ((((F_UnravelFrame fp0 fp1 wq kq).1).2).length : Int)) + (((F_UnravelFrame fp0 fp1 wq kq).2.1).length : Int))), (129, .bool (!decide (((F_UnravelFrame fp0 fp1 wq kq).2.2) = ((F_s_UnravelFrame fp0 fp1 wq kq).2.2))))]) ⟨rfl, rfl, rfl, rfl, trivial⟩
                          have hS727 := (St.pick (Γ' := [.own 2 1 b607 ((((F_UnravelFrame fp0 fp1 wq kq).1).2).length) c608 (((F_UnravelFrame fp0 fp1 wq kq).1).2), .blk b622 #[.int .i64 (((F_UnravelFrame fp0 fp1 wq kq).1).1), .slice b607 ((((F_UnravelFrame fp0 fp1 wq kq).1).2).length) c608] 28, .own 2 1 b609 (((F_UnravelFrame fp0 fp1 wq kq).2.1).length) c610 ((F_UnravelFrame fp0 fp1 wq kq).2.1), .own 2 1 b594 ((fp1).length) c595 fp1, .own 2 1 b131 (((F_UnravelFrame fp0 fp1 wq kq).2.1).length) c132 (marked ((F_UnravelFrame fp0 fp1 wq kq).2.1).length (1 + ((((F_UnravelFrame fp0 fp1 wq kq).1).2).length : Int))), .own 2 1 b129 ((((F_UnravelFrame fp0 fp1 wq kq).1).2).length) c130 (marked (((F_UnravelFrame fp0 fp1 wq kq).1).2).length 1), .own 2 1 b101 ((fp1).length) c102 (marked fp1.length 1), .own 2 1 b283 ((fp1).length) c284 fp1, .blk b144 #[.int .i64 (((F_UnravelFrame fp0 fp1 wq kq).1).1), .slice b129 ((((F_UnravelFrame fp0 fp1 wq kq).1).2).length) c130] 28, .blk b104 #[.int .i64 fp0, .slice b101 ((fp1).length) c102] 28, .own 2 1 b62 ((((F_s_UnravelFrame fp0 fp1 wq kq).1).2).length) c63 (((F_s_UnravelFrame fp0 fp1 wq kq).1).2), .blk b76 #[.int .i64 (((F_s_UnravelFrame fp0 fp1 wq kq).1).1), .slice b62 ((((F_s_UnravelFrame fp0 fp1 wq kq).1).2).length) c63] 28, .own 2 1 b64 (((F_s_UnravelFrame fp0 fp1 wq kq).2.1).length) c65 ((F_s_UnravelFrame fp0 fp1 wq kq).2.1), .own 2 1 b49 ((fp1).length) c50 fp1, .rd 1 fp1A fp1.length fp1C fp1, .blk b2 #[.int .i64 fp0, .slice fp1A fp1.length fp1C] 24]) hS691 [1, 0, 2, 3, 4, 5, 6, 7, 8, 9, 10, 11, 12, 13, 14, 15] (by decide) rfl)
                          exact ⟨(by rw [hb699, hb653]; exact hE726), hS727⟩
                    ·
                      rintro a728 w729 ⟨hE730, hS731⟩; clear hE638 hS632
                      have hE732 := hE730; rw [ht254] at hE732; clear hE730
                      refine c_false hE732 rfl ?_
                      refine wp_skip ?_
                      refine p_tn ?_
                      refine c_seq ?_
                      refine c_reg ?_
                      refine q_step (v := .int .i64 1) hE732 (y_assign rfl) rfl rfl rfl ?_; intro a733 hE734; clear hE732
                      refine c_nil ?_
                      have hE735 := hE734.sub (L' := [(12, .pointer (some ⟨b144, 0, none⟩)), (13, .slice b131 (((F_UnravelFrame fp0 fp1 wq kq).2.1).length) c132), (16, .int .i64 ((1 + ((((F_UnravelFrame fp0 fp1 wq kq).1).2).length : Int)) + (((F_UnravelFrame fp0 fp1 wq kq).2.1).length : Int))), (17, .int .i64 1)]) ⟨rfl, rfl, rfl, rfl, trivial⟩; clear hE734
                      refine p_tn ?_
                      refine c_seq ?_
                      refine c_reg ?_
                      refine q_step (v := .agg #[.int .i64 (((F_UnravelFrame fp0 fp1 wq kq).1).1), .slice b129 ((((F_UnravelFrame fp0 fp1 wq kq).1).2).length) c130]) hE735 (y_loadS Try.underlying28 rfl (by kernel_rfl) rfl (St.row (i := 8) hS731 rfl)) rfl rfl rfl ?_; intro a736 hE737; clear hE735
                      refine q_step (v := .int .i64 1) hE737 (y_move rfl) rfl rfl rfl ?_; intro a738 hE739; clear hE737
                      refine l_step hE739 rfl (l_call (f := 33) (argv := [.agg #[.int .i64 (((F_UnravelFrame fp0 fp1 wq kq).1).1), .slice b129 ((((F_UnravelFrame fp0 fp1 wq kq).1).2).length) c130], .int .i64 1]) hE739 (fun _ => cf_l_heldFrame _ _) rfl rfl (c_l_heldFrame (((F_UnravelFrame fp0 fp1 wq kq).1).1) b129 ((((F_UnravelFrame fp0 fp1 wq kq).1).2).length) c130 (marked (((F_UnravelFrame fp0 fp1 wq kq).1).2).length 1) 1 w729 (St.rdO (i := 5) hS731 rfl) (by first | omega | (simp only [marked_len]; omega) | (simp only [marked_len] at *; omega)) (by first | omega | (simp only [marked_len]; omega) | (simp only [marked_len] at *; omega)) (by first | omega | (simp only [marked_len]; omega) | (simp only [marked_len] at *; omega))) ?_)
                      rintro _ w741 ⟨rfl, he745⟩ a742 hE743; clear hE739
                      have hf746 := heldFrame_le (((F_UnravelFrame fp0 fp1 wq kq).1).1) (marked (((F_UnravelFrame fp0 fp1 wq kq).1).2).length 1) 1
                      have hS744 := St.go hS731 he745; clear hS731
                      refine q_step (v := .int .i64 (F_l_heldFrame (((F_UnravelFrame fp0 fp1 wq kq).1).1) (marked (((F_UnravelFrame fp0 fp1 wq kq).1).2).length 1) 1)) hE743 (y_assign rfl) rfl rfl rfl ?_; intro a747 hE748; clear hE743
                      refine c_nil ?_
                      have hE749 := hE748.sub (L' := [(13, .slice b131 (((F_UnravelFrame fp0 fp1 wq kq).2.1).length) c132), (16, .int .i64 ((1 + ((((F_UnravelFrame fp0 fp1 wq kq).1).2).length : Int)) + (((F_UnravelFrame fp0 fp1 wq kq).2.1).length : Int))), (17, .int .i64 (F_l_heldFrame (((F_UnravelFrame fp0 fp1 wq kq).1).1) (marked (((F_UnravelFrame fp0 fp1 wq kq).1).2).length 1) 1))]) ⟨rfl, rfl, rfl, trivial⟩; clear hE748
                      refine p_tn ?_
                      refine c_seq ?_
                      refine c_seq ?_
                      refine c_reg ?_
                      refine q_step (v := .int .i64 (F_l_heldFrame (((F_UnravelFrame fp0 fp1 wq kq).1).1) (marked (((F_UnravelFrame fp0 fp1 wq kq).1).2).length 1) 1)) hE749 (y_move rfl) rfl rfl rfl ?_; intro a750 hE751; clear hE749
                      refine q_step (v := .bool (decide ((F_l_heldFrame (((F_UnravelFrame fp0 fp1 wq kq).1).1) (marked (((F_UnravelFrame fp0 fp1 wq kq).1).2).length 1) 1) < 0))) hE751 (y_lss rfl rfl) rfl rfl rfl ?_; intro a752 hE753; clear hE751
                      refine c_nil ?_
                      have hE754 := hE753.sub (L' := [(13, .slice b131 (((F_UnravelFrame fp0 fp1 wq kq).2.1).length) c132), (16, .int .i64 ((1 + ((((F_UnravelFrame fp0 fp1 wq kq).1).2).length : Int)) + (((F_UnravelFrame fp0 fp1 wq kq).2.1).length : Int))), (17, .int .i64 (F_l_heldFrame (((F_UnravelFrame fp0 fp1 wq kq).1).1) (marked (((F_UnravelFrame fp0 fp1 wq kq).1).2).length 1) 1)), (134, .bool (decide ((F_l_heldFrame (((F_UnravelFrame fp0 fp1 wq kq).1).1) (marked (((F_UnravelFrame fp0 fp1 wq kq).1).2).length 1) 1) < 0)))]) ⟨rfl, rfl, rfl, rfl, trivial⟩; clear hE753
                      refine p_tn ?_
                      have hE755 := hE754; rw [ht535] at hE755; clear hE754
                      refine c_false hE755 rfl ?_
                      refine wp_skip ?_
                      refine p_tn ?_
                      refine c_seq ?_
                      refine c_reg ?_
                      refine q_step (v := .slice b131 (((F_UnravelFrame fp0 fp1 wq kq).2.1).length) c132) hE755 (y_move rfl) rfl rfl rfl ?_; intro a756 hE757; clear hE755
                      refine q_step (v := .int .i64 (F_l_heldFrame (((F_UnravelFrame fp0 fp1 wq kq).1).1) (marked (((F_UnravelFrame fp0 fp1 wq kq).1).2).length 1) 1)) hE757 (y_move rfl) rfl rfl rfl ?_; intro a758 hE759; clear hE757
                      refine l_step hE759 rfl (l_call (f := 45) (argv := [.slice b131 (((F_UnravelFrame fp0 fp1 wq kq).2.1).length) c132, .int .i64 (F_l_heldFrame (((F_UnravelFrame fp0 fp1 wq kq).1).1) (marked (((F_UnravelFrame fp0 fp1 wq kq).1).2).length 1) 1)]) hE759 (fun _ => cf_l_heldInt64S _ _) rfl rfl (c_l_heldInt64S b131 (((F_UnravelFrame fp0 fp1 wq kq).2.1).length) c132 (marked ((F_UnravelFrame fp0 fp1 wq kq).2.1).length (1 + ((((F_UnravelFrame fp0 fp1 wq kq).1).2).length : Int))) (F_l_heldFrame (((F_UnravelFrame fp0 fp1 wq kq).1).1) (marked (((F_UnravelFrame fp0 fp1 wq kq).1).2).length 1) 1) w741 (St.rdO (i := 4) hS744 rfl) (by first | omega | (simp only [marked_len]; omega) | (simp only [marked_len] at *; omega)) (by first | omega | (simp only [marked_len]; omega) | (simp only [marked_len] at *; omega)) (by first | omega | (simp only [marked_len]; omega) | (simp only [marked_len] at *; omega))) ?_)
                      rintro _ w761 ⟨rfl, he765⟩ a762 hE763; clear hE759
                      have hS764 := St.go hS744 he765; clear hS744
                      refine q_step (v := .int .i64 (F_l_heldInt64S (marked ((F_UnravelFrame fp0 fp1 wq kq).2.1).length (1 + ((((F_UnravelFrame fp0 fp1 wq kq).1).2).length : Int))) (F_l_heldFrame (((F_UnravelFrame fp0 fp1 wq kq).1).1) (marked (((F_UnravelFrame fp0 fp1 wq kq).1).2).length 1) 1))) hE763 (y_assign rfl) rfl rfl rfl ?_; intro a766 hE767; clear hE763
                      refine c_nil ?_
                      have hE768 := hE767.sub (L' := [(16, .int .i64 ((1 + ((((F_UnravelFrame fp0 fp1 wq kq).1).2).length : Int)) + (((F_UnravelFrame fp0 fp1 wq kq).2.1).length : Int))), (17, .int .i64 (F_l_heldInt64S (marked ((F_UnravelFrame fp0 fp1 wq kq).2.1).length (1 + ((((F_UnravelFrame fp0 fp1 wq kq).1).2).length : Int))) (F_l_heldFrame (((F_UnravelFrame fp0 fp1 wq kq).1).1) (marked (((F_UnravelFrame fp0 fp1 wq kq).1).2).length 1) 1)))]) ⟨rfl, rfl, trivial⟩; clear hE767
                      refine p_tn ?_
                      refine c_seq ?_
                      refine c_seq ?_
                      refine c_reg ?_
                      refine q_step (v := .int .i64 (F_l_heldInt64S (marked ((F_UnravelFrame fp0 fp1 wq kq).2.1).length (1 + ((((F_UnravelFrame fp0 fp1 wq kq).1).2).length : Int))) (F_l_heldFrame (((F_UnravelFrame fp0 fp1 wq kq).1).1) (marked (((F_UnravelFrame fp0 fp1 wq kq).1).2).length 1) 1))) hE768 (y_move rfl) rfl rfl rfl ?_; intro a769 hE770; clear hE768
                      refine q_step (v := .bool (decide ((F_l_heldInt64S (marked ((F_UnravelFrame fp0 fp1 wq kq).2.1).length (1 + ((((F_UnravelFrame fp0 fp1 wq kq).1).2).length : Int))) (F_l_heldFrame (((F_UnravelFrame fp0 fp1 wq kq).1).1) (marked (((F_UnravelFrame fp0 fp1 wq kq).1).2).length 1) 1)) < 0))) hE770 (y_lss rfl rfl) rfl rfl rfl ?_; intro a771 hE772; clear hE770
                      refine c_nil ?_
                      have hE773 := hE772.sub (L' := [(16, .int .i64 ((1 + ((((F_UnravelFrame fp0 fp1 wq kq).1).2).length : Int)) + (((F_UnravelFrame fp0 fp1 wq kq).2.1).length : Int))), (17, .int .i64 (F_l_heldInt64S (marked ((F_UnravelFrame fp0 fp1 wq kq).2.1).length (1 + ((((F_UnravelFrame fp0 fp1 wq kq).1).2).length : Int))) (F_l_heldFrame (((F_UnravelFrame fp0 fp1 wq kq).1).1) (marked (((F_UnravelFrame fp0 fp1 wq kq).1).2).length 1) 1))), (139, .bool (decide ((F_l_heldInt64S (marked ((F_UnravelFrame fp0 fp1 wq kq).2.1).length (1 + ((((F_UnravelFrame fp0 fp1 wq kq).1).2).length : Int))) (F_l_heldFrame (((F_UnravelFrame fp0 fp1 wq kq).1).1) (marked (((F_UnravelFrame fp0 fp1 wq kq).1).2).length 1) 1)) < 0)))]) ⟨rfl, rfl, rfl, trivial⟩; clear hE772
                      refine p_tn ?_
                      have hE774 := hE773; rw [ht561] at hE774; clear hE773
                      refine c_false hE774 rfl ?_
                      refine wp_skip ?_
                      refine p_tn ?_
                      refine c_seq ?_
                      refine c_seq ?_
                      refine c_reg ?_
                      refine q_step (v := .int .i64 (F_l_heldInt64S (marked ((F_UnravelFrame fp0 fp1 wq kq).2.1).length (1 + ((((F_UnravelFrame fp0 fp1 wq kq).1).2).length : Int))) (F_l_heldFrame (((F_UnravelFrame fp0 fp1 wq kq).1).1) (marked (((F_UnravelFrame fp0 fp1 wq kq).1).2).length 1) 1))) hE774 (y_move rfl) rfl rfl rfl ?_; intro a775 hE776; clear hE774
                      refine q_step (v := .int .i64 ((1 + ((((F_UnravelFrame fp0 fp1 wq kq).1).2).length : Int)) + (((F_UnravelFrame fp0 fp1 wq kq).2.1).length : Int))) hE776 (y_move rfl) rfl rfl rfl ?_; intro a777 hE778; clear hE776
                      refine q_step (v := .bool (!decide ((F_l_heldInt64S (marked ((F_UnravelFrame fp0 fp1 wq kq).2.1).length (1 + ((((F_UnravelFrame fp0 fp1 wq kq).1).2).length : Int))) (F_l_heldFrame (((F_UnravelFrame fp0 fp1 wq kq).1).1) (marked (((F_UnravelFrame fp0 fp1 wq kq).1).2).length 1) 1)) = ((1 + ((((F_UnravelFrame fp0 fp1 wq kq).1).2).length : Int)) + (((F_UnravelFrame fp0 fp1 wq kq).2.1).length : Int))))) hE778 (y_neq rfl rfl) rfl rfl rfl ?_; intro a779 hE780; clear hE778
                      refine c_nil ?_
                      have hE781 := hE780.sub (L' := [(142, .bool (!decide ((F_l_heldInt64S (marked ((F_UnravelFrame fp0 fp1 wq kq).2.1).length (1 + ((((F_UnravelFrame fp0 fp1 wq kq).1).2).length : Int))) (F_l_heldFrame (((F_UnravelFrame fp0 fp1 wq kq).1).1) (marked (((F_UnravelFrame fp0 fp1 wq kq).1).2).length 1) 1)) = ((1 + ((((F_UnravelFrame fp0 fp1 wq kq).1).2).length : Int)) + (((F_UnravelFrame fp0 fp1 wq kq).2.1).length : Int)))))]) ⟨rfl, trivial⟩; clear hE780
                      refine p_tn ?_
                      have hE782 := hE781; rw [ht576] at hE782; clear hE781
                      refine c_false hE782 rfl ?_
                      refine wp_skip ?_
                      refine p_tn ?_
                      refine c_seq ?_
                      refine c_reg ?_
                      refine q_step (v := .bool true) hE782 (y_assign rfl) rfl rfl rfl ?_; intro a783 hE784; clear hE782
                      refine c_nil ?_
                      have hE785 := hE784.sub (L' := [(6, .bool true)]) ⟨rfl, trivial⟩; clear hE784
                      refine p_tn ?_
                      refine wp_ret ?_
                      have hF : F_l_FnExactUnravelFrame fp0 fp1 wq kq = true := by unfold F_l_FnExactUnravelFrame; rw [ht576, ht561, ht535, ht463, ht295, ht254, ht32]; first | done | rfl
                      refine c_ret1 hE785 rfl rfl ?_
                      exact ⟨(by rw [hF]; first | done | rfl), hS764.ext⟩

theorem FnExactUnravelFrame_true (fp0 : Int) (fp1 : List Int) (wq kq : Int) : F_l_FnExactUnravelFrame fp0 fp1 wq kq = true := by
  unfold F_l_FnExactUnravelFrame
  rw [(UnravelFrame_both fp0 fp1 wq kq).1, heldFrame_eq _ _ _ (by omega), heldI_eq]
  have h1 : decide (1 + (fp1.length : Int) < 0) = false := decide_eq_false (by omega)
  have h2 : decide ((1 : Int) + ((F_s_UnravelFrame fp0 fp1 wq kq).1.2.length : Int) < 0) = false := decide_eq_false (by omega)
  have h3 : decide ((1 : Int) + ((F_s_UnravelFrame fp0 fp1 wq kq).1.2.length : Int) + ((F_s_UnravelFrame fp0 fp1 wq kq).2.1.length : Int) < 0) = false := decide_eq_false (by omega)
  simp [h1, h2, h3]

end Go.Proofs.Ytejfjcjdilbkdaa
