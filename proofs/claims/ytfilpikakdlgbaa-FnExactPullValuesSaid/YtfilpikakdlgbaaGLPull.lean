/- GLPull: models and contracts, printed by wip/gen/gen.py -/
import Derived.Test.YtfilpikakdlgbaaGA
import Derived.Test.YtfilpikakdlgbaaGM
set_option linter.unusedVariables false
set_option linter.unusedSimpArgs false
namespace Go.Proofs.Ytfilpikakdlgbaa
open Go.RowKit

def F_l_FnExactPullValues (fp0 : Int) (fp1 : List Int) (gp0 : Int) (gp1 : List Int) (images : List Int) (vals : List Int) : Bool :=
  bif (decide (1048576 < (images.length : Int))) then true else (bif (decide (1048576 < (vals.length : Int))) then true else (bif (decide ((F_l_szFrame fp0 fp1 1048576) < 0)) then true else (bif (decide ((F_l_szFrame gp0 gp1 (F_l_szFrame fp0 fp1 1048576)) < 0)) then true else (bif ((!(decide (((F_PullValues fp0 fp1 gp0 gp1 images vals).1) = ((F_s_PullValues fp0 fp1 gp0 gp1 images vals).1)))) || (!decide (((F_PullValues fp0 fp1 gp0 gp1 images vals).2) = ((F_s_PullValues fp0 fp1 gp0 gp1 images vals).2)))) then false else (bif (!(decide ((fp0, fp1) = (fp0, fp1)))) then false else (bif (!(decide ((gp0, gp1) = (gp0, gp1)))) then false else (bif (!(decide (images = images))) then false else (bif (!(decide (vals = vals))) then false else (bif ((decide (((((1 + (fp1.length : Int)) + (gp1.length : Int)) + (images.length : Int)) + (vals.length : Int)) < 0)) || ((!(decide (((F_PullValues fp0 fp1 gp0 gp1 images vals).1) = ((F_s_PullValues fp0 fp1 gp0 gp1 images vals).1)))) || (!decide (((F_PullValues fp0 fp1 gp0 gp1 images vals).2) = ((F_s_PullValues fp0 fp1 gp0 gp1 images vals).2))))) then false else (bif (decide ((F_l_heldInt64S (marked ((F_PullValues fp0 fp1 gp0 gp1 images vals).1).length 1) 1) < 0)) then false else (bif (!decide ((F_l_heldInt64S (marked ((F_PullValues fp0 fp1 gp0 gp1 images vals).1).length 1) 1) = (1 + (((F_PullValues fp0 fp1 gp0 gp1 images vals).1).length : Int)))) then false else true)))))))))))
theorem cf_l_FnExactPullValues (args : Array Value) (w : World) : (callFunc 12 args).run Try.prog w = .ok (.enter 12 args) w := by kernel_rfl
set_option maxRecDepth 100000 in
theorem c_l_FnExactPullValues (fp0 : Int) (fp1A : Option Addr) (fp1N fp1C : Nat) (fp1 : List Int) (gp0 : Int) (gp1A : Option Addr) (gp1N gp1C : Nat) (gp1 : List Int) (imagesA : Option Addr) (imagesN imagesC : Nat) (images : List Int) (valsA : Option Addr) (valsN valsC : Nat) (vals : List Int) (w : World) (fp1R : RdS w 1 fp1A fp1N fp1C fp1) (gp1R : RdS w 1 gp1A gp1N gp1C gp1) (imagesR : RdS w 1 imagesA imagesN imagesC images) (valsR : RdS w 1 valsA valsN valsC vals) :
    Calls Try.prog 12 #[.agg #[.int .i64 fp0, .slice fp1A fp1N fp1C], .agg #[.int .i64 gp0, .slice gp1A gp1N gp1C], .slice imagesA imagesN imagesC, .slice valsA valsN valsC] w (Ret fun v w' => v = .bool (F_l_FnExactPullValues fp0 fp1 gp0 gp1 images vals) ∧ Ext w w') := by
  obtain rfl : fp1N = fp1.length := fp1R.len1.symm
  have fp1Le := fp1R.le
  obtain rfl : gp1N = gp1.length := gp1R.len1.symm
  have gp1Le := gp1R.le
  obtain rfl : imagesN = images.length := imagesR.len1.symm
  have imagesLe := imagesR.le
  obtain rfl : valsN = vals.length := valsR.len1.symm
  have valsLe := valsR.le
  have hS := St.nil w
  have hS1 := St.rd0 hS rfl fp1R; clear hS
  have hS2 := St.rd0 hS1 rfl gp1R; clear hS1
  have hS3 := St.rd0 hS2 rfl imagesR; clear hS2
  have hS4 := St.rd0 hS3 rfl valsR; clear hS3
  refine enter (args := [.agg #[.int .i64 fp0, .slice fp1A fp1.length fp1C], .agg #[.int .i64 gp0, .slice gp1A gp1.length gp1C], .slice imagesA images.length imagesC, .slice valsA vals.length valsC]) Try.func12 rfl rfl ?_
  rw [Try.ntmps12]; intro a hE
  have hE := hE.sub (L' := [(0, .agg #[.int .i64 fp0, .slice fp1A fp1.length fp1C]), (1, .agg #[.int .i64 gp0, .slice gp1A gp1.length gp1C]), (2, .slice imagesA images.length imagesC), (3, .slice valsA vals.length valsC)]) ⟨rfl, rfl, rfl, rfl, trivial⟩
  refine c_seq ?_
  refine c_reg ?_
  refine l_step hE rfl (l_box (v := .agg #[.int .i64 fp0, .slice fp1A fp1.length fp1C]) (cs := #[.int .i64 fp0, .slice fp1A fp1.length fp1C]) hS4 hE rfl rfl rfl ?_)
  intro b5 w6 hS9 he10 a7 hE8; clear hS4 hE
  refine l_step hE8 rfl (l_box (v := .agg #[.int .i64 gp0, .slice gp1A gp1.length gp1C]) (cs := #[.int .i64 gp0, .slice gp1A gp1.length gp1C]) hS9 hE8 rfl rfl rfl ?_)
  intro b11 w12 hS15 he16 a13 hE14; clear hS9 hE8
  refine q_step (v := .bool false) hE14 (y_assign rfl) rfl rfl rfl ?_; intro a17 hE18; clear hE14
  refine c_nil ?_
  have hE19 := hE18.sub (L' := [(2, .slice imagesA images.length imagesC), (3, .slice valsA vals.length valsC), (4, .pointer (some ⟨b5, 0, none⟩)), (5, .pointer (some ⟨b11, 0, none⟩))]) ⟨rfl, rfl, rfl, rfl, trivial⟩; clear hE18
  refine p_tn ?_
  refine c_seq ?_
  refine c_seq ?_
  refine c_reg ?_
  refine q_step (v := .slice imagesA images.length imagesC) hE19 (y_move rfl) rfl rfl rfl ?_; intro a20 hE21; clear hE19
  refine q_step (v := .int .i64 (images.length : Int)) hE21 (y_len (e := 2) (by kernel_rfl) rfl) rfl rfl rfl ?_; intro a22 hE23; clear hE21
  refine q_step (v := .bool (decide (1048576 < (images.length : Int)))) hE23 (y_gtr rfl rfl) rfl rfl rfl ?_; intro a24 hE25; clear hE23
  refine c_nil ?_
  have hE26 := hE25.sub (L' := [(2, .slice imagesA images.length imagesC), (3, .slice valsA vals.length valsC), (4, .pointer (some ⟨b5, 0, none⟩)), (5, .pointer (some ⟨b11, 0, none⟩)), (25, .bool (decide (1048576 < (images.length : Int))))]) ⟨rfl, rfl, rfl, rfl, rfl, trivial⟩; clear hE25
  refine p_tn ?_
  refine c_cond hE26 rfl (fun ht27 => ?_) (fun ht27 => ?_)
  ·
    have hp28 := of_decide_eq_true ht27
    have hE29 := hE26; rw [ht27] at hE29; clear hE26
    refine c_seq ?_
    refine c_reg ?_
    refine q_step (v := .bool true) hE29 (y_assign rfl) rfl rfl rfl ?_; intro a30 hE31; clear hE29
    refine c_nil ?_
    have hE32 := hE31.sub (L' := [(8, .bool true)]) ⟨rfl, trivial⟩; clear hE31
    refine p_tn ?_
    refine wp_ret ?_
    refine p_tr ?_
    have hF : F_l_FnExactPullValues fp0 fp1 gp0 gp1 images vals = true := by unfold F_l_FnExactPullValues; rw [ht27]; first | done | rfl
    refine c_ret1 hE32 rfl rfl ?_
    exact ⟨(by rw [hF]; first | done | rfl), hS15.ext⟩
  ·
    have hp33 := of_decide_eq_false ht27
    have hE34 := hE26; rw [ht27] at hE34; clear hE26
    refine wp_skip ?_
    refine p_tn ?_
    refine c_seq ?_
    refine c_seq ?_
    refine c_reg ?_
    refine q_step (v := .slice valsA vals.length valsC) hE34 (y_move rfl) rfl rfl rfl ?_; intro a35 hE36; clear hE34
    refine q_step (v := .int .i64 (vals.length : Int)) hE36 (y_len (e := 2) (by kernel_rfl) rfl) rfl rfl rfl ?_; intro a37 hE38; clear hE36
    refine q_step (v := .bool (decide (1048576 < (vals.length : Int)))) hE38 (y_gtr rfl rfl) rfl rfl rfl ?_; intro a39 hE40; clear hE38
    refine c_nil ?_
    have hE41 := hE40.sub (L' := [(2, .slice imagesA images.length imagesC), (3, .slice valsA vals.length valsC), (4, .pointer (some ⟨b5, 0, none⟩)), (5, .pointer (some ⟨b11, 0, none⟩)), (28, .bool (decide (1048576 < (vals.length : Int))))]) ⟨rfl, rfl, rfl, rfl, rfl, trivial⟩; clear hE40
    refine p_tn ?_
    refine c_cond hE41 rfl (fun ht42 => ?_) (fun ht42 => ?_)
    ·
      have hp43 := of_decide_eq_true ht42
      have hE44 := hE41; rw [ht42] at hE44; clear hE41
      refine c_seq ?_
      refine c_reg ?_
      refine q_step (v := .bool true) hE44 (y_assign rfl) rfl rfl rfl ?_; intro a45 hE46; clear hE44
      refine c_nil ?_
      have hE47 := hE46.sub (L' := [(8, .bool true)]) ⟨rfl, trivial⟩; clear hE46
      refine p_tn ?_
      refine wp_ret ?_
      refine p_tr ?_
      have hF : F_l_FnExactPullValues fp0 fp1 gp0 gp1 images vals = true := by unfold F_l_FnExactPullValues; rw [ht42, ht27]; first | done | rfl
      refine c_ret1 hE47 rfl rfl ?_
      exact ⟨(by rw [hF]; first | done | rfl), hS15.ext⟩
    ·
      have hp48 := of_decide_eq_false ht42
      have hE49 := hE41; rw [ht42] at hE49; clear hE41
      refine wp_skip ?_
      refine p_tn ?_
      refine c_seq ?_
      refine c_reg ?_
      refine q_step (v := .int .i64 1048576) hE49 (y_assign rfl) rfl rfl rfl ?_; intro a50 hE51; clear hE49
      refine c_nil ?_
      have hE52 := hE51.sub (L' := [(2, .slice imagesA images.length imagesC), (3, .slice valsA vals.length valsC), (4, .pointer (some ⟨b5, 0, none⟩)), (5, .pointer (some ⟨b11, 0, none⟩)), (9, .int .i64 1048576)]) ⟨rfl, rfl, rfl, rfl, rfl, trivial⟩; clear hE51
      refine p_tn ?_
      refine c_seq ?_
      refine c_reg ?_
      refine q_step (v := .agg #[.int .i64 fp0, .slice fp1A fp1.length fp1C]) hE52 (y_loadS Try.underlying51 rfl (by kernel_rfl) rfl (St.row (i := 1) hS15 rfl)) rfl rfl rfl ?_; intro a53 hE54; clear hE52
      refine q_step (v := .int .i64 1048576) hE54 (y_move rfl) rfl rfl rfl ?_; intro a55 hE56; clear hE54
      refine l_step hE56 rfl (l_call (f := 36) (argv := [.agg #[.int .i64 fp0, .slice fp1A fp1.length fp1C], .int .i64 1048576]) hE56 (fun _ => cf_l_szFrame _ _) rfl rfl (c_l_szFrame fp0 fp1A fp1.length fp1C fp1 1048576 w12 (St.rdR (i := 5) hS15 rfl) (by first | omega | (simp only [marked_len]; omega)) (by first | omega | (simp only [marked_len]; omega))) ?_)
      rintro _ w58 ⟨rfl, he62⟩ a59 hE60; clear hE56
      have hS61 := St.go hS15 he62; clear hS15
      refine q_step (v := .int .i64 (F_l_szFrame fp0 fp1 1048576)) hE60 (y_assign rfl) rfl rfl rfl ?_; intro a63 hE64; clear hE60
      refine c_nil ?_
      have hE65 := hE64.sub (L' := [(2, .slice imagesA images.length imagesC), (3, .slice valsA vals.length valsC), (4, .pointer (some ⟨b5, 0, none⟩)), (5, .pointer (some ⟨b11, 0, none⟩)), (9, .int .i64 (F_l_szFrame fp0 fp1 1048576))]) ⟨rfl, rfl, rfl, rfl, rfl, trivial⟩; clear hE64
      refine p_tn ?_
      refine c_seq ?_
      refine c_seq ?_
      refine c_reg ?_
      refine q_step (v := .int .i64 (F_l_szFrame fp0 fp1 1048576)) hE65 (y_move rfl) rfl rfl rfl ?_; intro a66 hE67; clear hE65
      refine q_step (v := .bool (decide ((F_l_szFrame fp0 fp1 1048576) < 0))) hE67 (y_lss rfl rfl) rfl rfl rfl ?_; intro a68 hE69; clear hE67
      refine c_nil ?_
      have hE70 := hE69.sub (L' := [(2, .slice imagesA images.length imagesC), (3, .slice valsA vals.length valsC), (4, .pointer (some ⟨b5, 0, none⟩)), (5, .pointer (some ⟨b11, 0, none⟩)), (9, .int .i64 (F_l_szFrame fp0 fp1 1048576)), (33, .bool (decide ((F_l_szFrame fp0 fp1 1048576) < 0)))]) ⟨rfl, rfl, rfl, rfl, rfl, rfl, trivial⟩; clear hE69
      refine p_tn ?_
      refine c_cond hE70 rfl (fun ht71 => ?_) (fun ht71 => ?_)
      ·
        have hp72 := of_decide_eq_true ht71
        have hE73 := hE70; rw [ht71] at hE73; clear hE70
        refine c_seq ?_
        refine c_reg ?_
        refine q_step (v := .bool true) hE73 (y_assign rfl) rfl rfl rfl ?_; intro a74 hE75; clear hE73
        refine c_nil ?_
        have hE76 := hE75.sub (L' := [(8, .bool true)]) ⟨rfl, trivial⟩; clear hE75
        refine p_tn ?_
        refine wp_ret ?_
        refine p_tr ?_
        have hF : F_l_FnExactPullValues fp0 fp1 gp0 gp1 images vals = true := by unfold F_l_FnExactPullValues; rw [ht71, ht42, ht27]; first | done | rfl
        refine c_ret1 hE76 rfl rfl ?_
        exact ⟨(by rw [hF]; first | done | rfl), hS61.ext⟩
      ·
        have hp77 := of_decide_eq_false ht71
        have hq78 := szFrame_bound hp77
        have hE79 := hE70; rw [ht71] at hE79; clear hE70
        refine wp_skip ?_
        refine p_tn ?_
        refine c_seq ?_
        refine c_reg ?_
        refine q_step (v := .agg #[.int .i64 gp0, .slice gp1A gp1.length gp1C]) hE79 (y_loadS Try.underlying51 rfl (by kernel_rfl) rfl (St.row (i := 0) hS61 rfl)) rfl rfl rfl ?_; intro a80 hE81; clear hE79
        refine q_step (v := .int .i64 (F_l_szFrame fp0 fp1 1048576)) hE81 (y_move rfl) rfl rfl rfl ?_; intro a82 hE83; clear hE81
        refine l_step hE83 rfl (l_call (f := 36) (argv := [.agg #[.int .i64 gp0, .slice gp1A gp1.length gp1C], .int .i64 (F_l_szFrame fp0 fp1 1048576)]) hE83 (fun _ => cf_l_szFrame _ _) rfl rfl (c_l_szFrame gp0 gp1A gp1.length gp1C gp1 (F_l_szFrame fp0 fp1 1048576) w58 (St.rdR (i := 4) hS61 rfl) (by first | omega | (simp only [marked_len]; omega)) (by first | omega | (simp only [marked_len]; omega))) ?_)
        rintro _ w85 ⟨rfl, he89⟩ a86 hE87; clear hE83
        have hS88 := St.go hS61 he89; clear hS61
        refine q_step (v := .int .i64 (F_l_szFrame gp0 gp1 (F_l_szFrame fp0 fp1 1048576))) hE87 (y_assign rfl) rfl rfl rfl ?_; intro a90 hE91; clear hE87
        refine c_nil ?_
        have hE92 := hE91.sub (L' := [(2, .slice imagesA images.length imagesC), (3, .slice valsA vals.length valsC), (4, .pointer (some ⟨b5, 0, none⟩)), (5, .pointer (some ⟨b11, 0, none⟩)), (9, .int .i64 (F_l_szFrame gp0 gp1 (F_l_szFrame fp0 fp1 1048576)))]) ⟨rfl, rfl, rfl, rfl, rfl, trivial⟩; clear hE91
        refine p_tn ?_
        refine c_seq ?_
        refine c_seq ?_
        refine c_reg ?_
        refine q_step (v := .int .i64 (F_l_szFrame gp0 gp1 (F_l_szFrame fp0 fp1 1048576))) hE92 (y_move rfl) rfl rfl rfl ?_; intro a93 hE94; clear hE92
        refine q_step (v := .bool (decide ((F_l_szFrame gp0 gp1 (F_l_szFrame fp0 fp1 1048576)) < 0))) hE94 (y_lss rfl rfl) rfl rfl rfl ?_; intro a95 hE96; clear hE94
        refine c_nil ?_
        have hE97 := hE96.sub (L' := [(2, .slice imagesA images.length imagesC), (3, .slice valsA vals.length valsC), (4, .pointer (some ⟨b5, 0, none⟩)), (5, .pointer (some ⟨b11, 0, none⟩)), (38, .bool (decide ((F_l_szFrame gp0 gp1 (F_l_szFrame fp0 fp1 1048576)) < 0)))]) ⟨rfl, rfl, rfl, rfl, rfl, trivial⟩; clear hE96
        refine p_tn ?_
        refine c_cond hE97 rfl (fun ht98 => ?_) (fun ht98 => ?_)
        ·
          have hp99 := of_decide_eq_true ht98
          have hE100 := hE97; rw [ht98] at hE100; clear hE97
          refine c_seq ?_
          refine c_reg ?_
          refine q_step (v := .bool true) hE100 (y_assign rfl) rfl rfl rfl ?_; intro a101 hE102; clear hE100
          refine c_nil ?_
          have hE103 := hE102.sub (L' := [(8, .bool true)]) ⟨rfl, trivial⟩; clear hE102
          refine p_tn ?_
          refine wp_ret ?_
          refine p_tr ?_
          have hF : F_l_FnExactPullValues fp0 fp1 gp0 gp1 images vals = true := by unfold F_l_FnExactPullValues; rw [ht98, ht71, ht42, ht27]; first | done | rfl
          refine c_ret1 hE103 rfl rfl ?_
          exact ⟨(by rw [hF]; first | done | rfl), hS88.ext⟩
        ·
          have hp104 := of_decide_eq_false ht98
          have hq105 := szFrame_bound hp104
          have hE106 := hE97; rw [ht98] at hE106; clear hE97
          refine wp_skip ?_
          refine p_tn ?_
          refine c_seq ?_
          refine d_start (fun w' => w'.heap[b5]? = some (.cells #[.int .i64 fp0, .slice fp1A fp1.length fp1C] 51 (0, 0)) ∧ w'.heap[b11]? = some (.cells #[.int .i64 gp0, .slice gp1A gp1.length gp1C] 51 (0, 0)) ∧ True) [0, 2] 14 (by kernel_rfl) rfl ?_
          intro w107 he108; have hS109 := St.go hS88 he108; clear hS88
          refine d_take (v := .agg #[.int .i64 fp0, .slice fp1A fp1.length fp1C]) 0 rfl hE106 ⟨(St.row (i := 1) hS109 rfl _ (Ext.refl _)), (St.row (i := 0) hS109 rfl _ (Ext.refl _)), trivial⟩ (y_loadS Try.underlying51 rfl (by kernel_rfl) rfl (fun _ h => h.1)) rfl rfl (by kernel_rfl) (by kernel_rfl) (by kernel_rfl) rfl rfl (fun _ _ _ h => h) ?_; intro a110 hE111; clear hE106
          refine d_take (v := .agg #[.int .i64 gp0, .slice gp1A gp1.length gp1C]) 2 rfl hE111 ⟨(St.row (i := 1) hS109 rfl _ (Ext.refl _)), (St.row (i := 0) hS109 rfl _ (Ext.refl _)), trivial⟩ (y_loadS Try.underlying51 rfl (by kernel_rfl) rfl (fun _ h => h.2.1)) rfl rfl (by kernel_rfl) (by kernel_rfl) (by kernel_rfl) rfl rfl (fun _ _ _ h => h) ?_; intro a112 hE113; clear hE111
          refine d_pure (v := .slice imagesA images.length imagesC) 4 rfl hE113 (y_move rfl) rfl (by kernel_rfl) (by kernel_rfl) (by kernel_rfl) rfl rfl (fun _ _ _ h => h) ?_; intro a114 hE115; clear hE113
          refine d_pure (v := .slice valsA vals.length valsC) 6 rfl hE115 (y_move rfl) rfl (by kernel_rfl) (by kernel_rfl) (by kernel_rfl) rfl rfl (fun _ _ _ h => h) ?_; intro a116 hE117; clear hE115
          refine d_only 1 (by kernel_rfl) rfl hE117 rfl (l_call (f := 38) (argv := [.agg #[.int .i64 fp0, .slice fp1A fp1.length fp1C]]) hE117 (fun _ => cf_l_toFrame _ _) rfl rfl (d_l_toFrame fp0 fp1A fp1.length fp1C fp1 w107 (St.rdR (i := 5) hS109 rfl) (by first | omega | (simp only [marked_len]; omega))) ?_)
          rintro _ w119 ⟨b124, c125, rfl, ho126, he123⟩ a120 hE121; clear hE117
          have hS122 := St.own hS109 he123 ho126; clear hS109
          refine ⟨fun _ _ => ⟨(St.row (i := 2) hS122 rfl _ (Ext.refl _)), (St.row (i := 1) hS122 rfl _ (Ext.refl _)), trivial⟩, ?_⟩
          refine d_only 3 (by kernel_rfl) rfl hE121 rfl (l_call (f := 38) (argv := [.agg #[.int .i64 gp0, .slice gp1A gp1.length gp1C]]) hE121 (fun _ => cf_l_toFrame _ _) rfl rfl (d_l_toFrame gp0 gp1A gp1.length gp1C gp1 w119 (St.rdR (i := 5) hS122 rfl) (by first | omega | (simp only [marked_len]; omega))) ?_)
          rintro _ w128 ⟨b133, c134, rfl, ho135, he132⟩ a129 hE130; clear hE121
          have hS131 := St.own hS122 he132 ho135; clear hS122
          refine ⟨fun _ _ => ⟨(St.row (i := 3) hS131 rfl _ (Ext.refl _)), (St.row (i := 2) hS131 rfl _ (Ext.refl _)), trivial⟩, ?_⟩
          refine d_only 5 (by kernel_rfl) rfl hE130 rfl (l_call (f := 21) (argv := [.slice imagesA images.length imagesC]) hE130 (fun _ => cf_l_toInt64S _ _) rfl rfl (d_l_toInt64S imagesA images.length imagesC images w128 (St.rdR (i := 5) hS131 rfl) (by first | omega | (simp only [marked_len]; omega))) ?_)
          rintro _ w137 ⟨b142, c143, rfl, ho144, he141⟩ a138 hE139; clear hE130
          have hS140 := St.own hS131 he141 ho144; clear hS131
          refine ⟨fun _ _ => ⟨(St.row (i := 4) hS140 rfl _ (Ext.refl _)), (St.row (i := 3) hS140 rfl _ (Ext.refl _)), trivial⟩, ?_⟩
          refine d_only 7 (by kernel_rfl) rfl hE139 rfl (l_call (f := 21) (argv := [.slice valsA vals.length valsC]) hE139 (fun _ => cf_l_toInt64S _ _) rfl rfl (d_l_toInt64S valsA vals.length valsC vals w137 (St.rdR (i := 5) hS140 rfl) (by first | omega | (simp only [marked_len]; omega))) ?_)
          rintro _ w146 ⟨b151, c152, rfl, ho153, he150⟩ a147 hE148; clear hE139
          have hS149 := St.own hS140 he150 ho153; clear hS140
          refine ⟨fun _ _ => ⟨(St.row (i := 5) hS149 rfl _ (Ext.refl _)), (St.row (i := 4) hS149 rfl _ (Ext.refl _)), trivial⟩, ?_⟩
          refine d_only 8 (by kernel_rfl) rfl hE148 rfl (l_call (f := 50) (argv := [.agg #[.int .i64 fp0, .slice b124 ((fp1).length) c125], .agg #[.int .i64 gp0, .slice b133 ((gp1).length) c134], .slice b142 ((images).length) c143, .slice b151 ((vals).length) c152]) hE148 (fun _ => cf_s_PullValues _ _) rfl rfl (c_s_PullValues fp0 b124 ((fp1).length) c125 fp1 gp0 b133 ((gp1).length) c134 gp1 b142 ((images).length) c143 images b151 ((vals).length) c152 vals w146 (St.rdO (i := 3) hS149 rfl) (St.rdO (i := 2) hS149 rfl) (St.rdO (i := 1) hS149 rfl) (St.rdO (i := 0) hS149 rfl) (by first | omega | (simp only [marked_len]; omega))) ?_)
          rintro _ w155 ⟨b160, c161, rfl, ho162, he159⟩ a156 hE157; clear hE148
          have hS158 := St.own hS149 he159 ho162; clear hS149
          refine ⟨fun _ _ => ⟨(St.row (i := 6) hS158 rfl _ (Ext.refl _)), (St.row (i := 5) hS158 rfl _ (Ext.refl _)), trivial⟩, ?_⟩
          refine d_pure (v := .tuple #[.slice b160 (((F_s_PullValues fp0 fp1 gp0 gp1 images vals).1).length) c161, .int .i64 ((F_s_PullValues fp0 fp1 gp0 gp1 images vals).2)]) 9 rfl hE157 (y_move rfl) rfl (by kernel_rfl) (by kernel_rfl) (by kernel_rfl) rfl rfl (fun _ _ _ h => h) ?_; intro a163 hE164; clear hE157
          refine d_pure (v := .slice b160 (((F_s_PullValues fp0 fp1 gp0 gp1 images vals).1).length) c161) 10 rfl hE164 (y_extract rfl rfl) rfl (by kernel_rfl) (by kernel_rfl) (by kernel_rfl) rfl rfl (fun _ _ _ h => h) ?_; intro a165 hE166; clear hE164
          refine d_pure (v := .int .i64 ((F_s_PullValues fp0 fp1 gp0 gp1 images vals).2)) 11 rfl hE166 (y_extract rfl rfl) rfl (by kernel_rfl) (by kernel_rfl) (by kernel_rfl) rfl rfl (fun _ _ _ h => h) ?_; intro a167 hE168; clear hE166
          refine d_pure (v := .slice b160 (((F_s_PullValues fp0 fp1 gp0 gp1 images vals).1).length) c161) 12 rfl hE168 (y_assign rfl) rfl (by kernel_rfl) (by kernel_rfl) (by kernel_rfl) rfl rfl (fun _ _ _ h => h) ?_; intro a169 hE170; clear hE168
          refine d_pure (v := .int .i64 ((F_s_PullValues fp0 fp1 gp0 gp1 images vals).2)) 13 rfl hE170 (y_assign rfl) rfl (by kernel_rfl) (by kernel_rfl) (by kernel_rfl) rfl rfl (fun _ _ _ h => h) ?_; intro a171 hE172; clear hE170
          refine d_done (by kernel_rfl) ?_
          have hE173 := hE172.sub (L' := [(2, .slice imagesA images.length imagesC), (3, .slice valsA vals.length valsC), (4, .pointer (some ⟨b5, 0, none⟩)), (5, .pointer (some ⟨b11, 0, none⟩)), (10, .slice b160 (((F_s_PullValues fp0 fp1 gp0 gp1 images vals).1).length) c161), (11, .int .i64 ((F_s_PullValues fp0 fp1 gp0 gp1 images vals).2))]) ⟨rfl, rfl, rfl, rfl, rfl, rfl, trivial⟩; clear hE172
          refine p_tn ?_
          refine c_seq ?_
          refine c_reg ?_
          refine q_step (v := .agg #[.int .i64 fp0, .slice fp1A fp1.length fp1C]) hE173 (y_loadS Try.underlying51 rfl (by kernel_rfl) rfl (St.row (i := 6) hS158 rfl)) rfl rfl rfl ?_; intro a174 hE175; clear hE173
          refine l_step hE175 rfl (l_call (f := 38) (argv := [.agg #[.int .i64 fp0, .slice fp1A fp1.length fp1C]]) hE175 (fun _ => cf_l_toFrame _ _) rfl rfl (d_l_toFrame fp0 fp1A fp1.length fp1C fp1 w155 (St.rdR (i := 10) hS158 rfl) (by first | omega | (simp only [marked_len]; omega))) ?_)
          rintro _ w177 ⟨b182, c183, rfl, ho184, he181⟩ a178 hE179; clear hE175
          have hS180 := St.own hS158 he181 ho184; clear hS158
          refine l_step hE179 rfl (l_alloc (z := .agg #[.int .i64 0, .slice none 0 0]) (cs := #[.int .i64 0, .slice none 0 0]) hS180 hE179 (fun _ => by kernel_rfl) rfl rfl ?_)
          intro b185 w186 hS189 he190 a187 hE188; clear hS180 hE179
          refine l_step hE188 rfl (l_storeS (k := 0) (cs' := #[.int .i64 fp0, .slice b182 ((fp1).length) c183]) hS189 hE188 (by kernel_rfl) rfl rfl (by kernel_rfl) rfl rfl ?_)
          intro w192 hS195 a193 hE194; clear hS189 hE188
          refine c_nil ?_
          have hE197 := hE194.sub (L' := [(2, .slice imagesA images.length imagesC), (3, .slice valsA vals.length valsC), (4, .pointer (some ⟨b5, 0, none⟩)), (5, .pointer (some ⟨b11, 0, none⟩)), (10, .slice b160 (((F_s_PullValues fp0 fp1 gp0 gp1 images vals).1).length) c161), (11, .int .i64 ((F_s_PullValues fp0 fp1 gp0 gp1 images vals).2)), (12, .pointer (some ⟨b185, 0, none⟩))]) ⟨rfl, rfl, rfl, rfl, rfl, rfl, rfl, trivial⟩; clear hE194
          refine p_tn ?_
          refine c_seq ?_
          refine c_reg ?_
          refine q_step (v := .agg #[.int .i64 gp0, .slice gp1A gp1.length gp1C]) hE197 (y_loadS Try.underlying51 rfl (by kernel_rfl) rfl (St.row (i := 7) hS195 rfl)) rfl rfl rfl ?_; intro a198 hE199; clear hE197
          refine l_step hE199 rfl (l_call (f := 38) (argv := [.agg #[.int .i64 gp0, .slice gp1A gp1.length gp1C]]) hE199 (fun _ => cf_l_toFrame _ _) rfl rfl (d_l_toFrame gp0 gp1A gp1.length gp1C gp1 w192 (St.rdR (i := 11) hS195 rfl) (by first | omega | (simp only [marked_len]; omega))) ?_)
          rintro _ w201 ⟨b206, c207, rfl, ho208, he205⟩ a202 hE203; clear hE199
          have hS204 := St.own hS195 he205 ho208; clear hS195
          refine l_step hE203 rfl (l_alloc (z := .agg #[.int .i64 0, .slice none 0 0]) (cs := #[.int .i64 0, .slice none 0 0]) hS204 hE203 (fun _ => by kernel_rfl) rfl rfl ?_)
          intro b209 w210 hS213 he214 a211 hE212; clear hS204 hE203
          refine l_step hE212 rfl (l_storeS (k := 0) (cs' := #[.int .i64 gp0, .slice b206 ((gp1).length) c207]) hS213 hE212 (by kernel_rfl) rfl rfl (by kernel_rfl) rfl rfl ?_)
          intro w216 hS219 a217 hE218; clear hS213 hE212
          refine c_nil ?_
          have hE221 := hE218.sub (L' := [(2, .slice imagesA images.length imagesC), (3, .slice valsA vals.length valsC), (4, .pointer (some ⟨b5, 0, none⟩)), (5, .pointer (some ⟨b11, 0, none⟩)), (10, .slice b160 (((F_s_PullValues fp0 fp1 gp0 gp1 images vals).1).length) c161), (11, .int .i64 ((F_s_PullValues fp0 fp1 gp0 gp1 images vals).2)), (12, .pointer (some ⟨b185, 0, none⟩)), (13, .pointer (some ⟨b209, 0, none⟩))]) ⟨rfl, rfl, rfl, rfl, rfl, rfl, rfl, rfl, trivial⟩; clear hE218
          refine p_tn ?_
          refine c_seq ?_
          refine c_reg ?_
          refine q_step (v := .slice imagesA images.length imagesC) hE221 (y_move rfl) rfl rfl rfl ?_; intro a222 hE223; clear hE221
          refine l_step hE223 rfl (l_call (f := 21) (argv := [.slice imagesA images.length imagesC]) hE223 (fun _ => cf_l_toInt64S _ _) rfl rfl (d_l_toInt64S imagesA images.length imagesC images w216 (St.rdR (i := 12) hS219 rfl) (by first | omega | (simp only [marked_len]; omega))) ?_)
          rintro _ w225 ⟨b230, c231, rfl, ho232, he229⟩ a226 hE227; clear hE223
          have hS228 := St.own hS219 he229 ho232; clear hS219
          refine q_step (v := .slice b230 ((images).length) c231) hE227 (y_assign rfl) rfl rfl rfl ?_; intro a233 hE234; clear hE227
          refine c_nil ?_
          have hE235 := hE234.sub (L' := [(2, .slice imagesA images.length imagesC), (3, .slice valsA vals.length valsC), (4, .pointer (some ⟨b5, 0, none⟩)), (5, .pointer (some ⟨b11, 0, none⟩)), (10, .slice b160 (((F_s_PullValues fp0 fp1 gp0 gp1 images vals).1).length) c161), (11, .int .i64 ((F_s_PullValues fp0 fp1 gp0 gp1 images vals).2)), (12, .pointer (some ⟨b185, 0, none⟩)), (13, .pointer (some ⟨b209, 0, none⟩)), (14, .slice b230 ((images).length) c231)]) ⟨rfl, rfl, rfl, rfl, rfl, rfl, rfl, rfl, rfl, trivial⟩; clear hE234
          refine p_tn ?_
          refine c_seq ?_
          refine c_reg ?_
          refine q_step (v := .slice valsA vals.length valsC) hE235 (y_move rfl) rfl rfl rfl ?_; intro a236 hE237; clear hE235
          refine l_step hE237 rfl (l_call (f := 21) (argv := [.slice valsA vals.length valsC]) hE237 (fun _ => cf_l_toInt64S _ _) rfl rfl (d_l_toInt64S valsA vals.length valsC vals w225 (St.rdR (i := 12) hS228 rfl) (by first | omega | (simp only [marked_len]; omega))) ?_)
          rintro _ w239 ⟨b244, c245, rfl, ho246, he243⟩ a240 hE241; clear hE237
          have hS242 := St.own hS228 he243 ho246; clear hS228
          refine q_step (v := .slice b244 ((vals).length) c245) hE241 (y_assign rfl) rfl rfl rfl ?_; intro a247 hE248; clear hE241
          refine c_nil ?_
          have hE249 := hE248.sub (L' := [(2, .slice imagesA images.length imagesC), (3, .slice valsA vals.length valsC), (4, .pointer (some ⟨b5, 0, none⟩)), (5, .pointer (some ⟨b11, 0, none⟩)), (10, .slice b160 (((F_s_PullValues fp0 fp1 gp0 gp1 images vals).1).length) c161), (11, .int .i64 ((F_s_PullValues fp0 fp1 gp0 gp1 images vals).2)), (12, .pointer (some ⟨b185, 0, none⟩)), (13, .pointer (some ⟨b209, 0, none⟩)), (14, .slice b230 ((images).length) c231), (15, .slice b244 ((vals).length) c245)]) ⟨rfl, rfl, rfl, rfl, rfl, rfl, rfl, rfl, rfl, rfl, trivial⟩; clear hE248
          refine p_tn ?_
          refine c_seq ?_
          refine c_reg ?_
          refine q_step (v := .agg #[.int .i64 fp0, .slice b182 ((fp1).length) c183]) hE249 (y_loadS Try.underlying53 rfl (by kernel_rfl) rfl (St.row (i := 4) hS242 rfl)) rfl rfl rfl ?_; intro a250 hE251; clear hE249
          refine q_step (v := .agg #[.int .i64 gp0, .slice b206 ((gp1).length) c207]) hE251 (y_loadS Try.underlying53 rfl (by kernel_rfl) rfl (St.row (i := 2) hS242 rfl)) rfl rfl rfl ?_; intro a252 hE253; clear hE251
          refine q_step (v := .slice b230 ((images).length) c231) hE253 (y_move rfl) rfl rfl rfl ?_; intro a254 hE255; clear hE253
          refine q_step (v := .slice b244 ((vals).length) c245) hE255 (y_move rfl) rfl rfl rfl ?_; intro a256 hE257; clear hE255
          refine l_step hE257 rfl (l_call (f := 51) (argv := [.agg #[.int .i64 fp0, .slice b182 ((fp1).length) c183], .agg #[.int .i64 gp0, .slice b206 ((gp1).length) c207], .slice b230 ((images).length) c231, .slice b244 ((vals).length) c245]) hE257 (fun _ => cf_PullValues _ _) rfl rfl (c_PullValues fp0 b182 ((fp1).length) c183 fp1 gp0 b206 ((gp1).length) c207 gp1 b230 ((images).length) c231 images b244 ((vals).length) c245 vals w239 (St.rdO (i := 5) hS242 rfl) (St.rdO (i := 3) hS242 rfl) (St.rdO (i := 1) hS242 rfl) (St.rdO (i := 0) hS242 rfl) (by first | omega | (simp only [marked_len]; omega))) ?_)
          rintro _ w259 ⟨b264, c265, rfl, ho266, he263⟩ a260 hE261; clear hE257
          have hf267 := PullValues_len fp0 fp1 gp0 gp1 images vals
          have hS262 := St.own hS242 he263 ho266; clear hS242
          refine q_step (v := .tuple #[.slice b264 (((F_PullValues fp0 fp1 gp0 gp1 images vals).1).length) c265, .int .i64 ((F_PullValues fp0 fp1 gp0 gp1 images vals).2)]) hE261 (y_move rfl) rfl rfl rfl ?_; intro a268 hE269; clear hE261
          refine q_step (v := .slice b264 (((F_PullValues fp0 fp1 gp0 gp1 images vals).1).length) c265) hE269 (y_extract rfl rfl) rfl rfl rfl ?_; intro a270 hE271; clear hE269
          refine q_step (v := .int .i64 ((F_PullValues fp0 fp1 gp0 gp1 images vals).2)) hE271 (y_extract rfl rfl) rfl rfl rfl ?_; intro a272 hE273; clear hE271
          refine q_step (v := .slice b264 (((F_PullValues fp0 fp1 gp0 gp1 images vals).1).length) c265) hE273 (y_assign rfl) rfl rfl rfl ?_; intro a274 hE275; clear hE273
          refine q_step (v := .int .i64 ((F_PullValues fp0 fp1 gp0 gp1 images vals).2)) hE275 (y_assign rfl) rfl rfl rfl ?_; intro a276 hE277; clear hE275
          refine c_nil ?_
          have hE278 := hE277.sub (L' := [(2, .slice imagesA images.length imagesC), (3, .slice valsA vals.length valsC), (4, .pointer (some ⟨b5, 0, none⟩)), (5, .pointer (some ⟨b11, 0, none⟩)), (10, .slice b160 (((F_s_PullValues fp0 fp1 gp0 gp1 images vals).1).length) c161), (11, .int .i64 ((F_s_PullValues fp0 fp1 gp0 gp1 images vals).2)), (12, .pointer (some ⟨b185, 0, none⟩)), (13, .pointer (some ⟨b209, 0, none⟩)), (14, .slice b230 ((images).length) c231), (15, .slice b244 ((vals).length) c245), (16, .slice b264 (((F_PullValues fp0 fp1 gp0 gp1 images vals).1).length) c265), (17, .int .i64 ((F_PullValues fp0 fp1 gp0 gp1 images vals).2))]) ⟨rfl, rfl, rfl, rfl, rfl, rfl, rfl, rfl, rfl, rfl, rfl, rfl, trivial⟩; clear hE277
          refine p_tn ?_
          refine c_seq ?_
          refine c_cut (fun a' w' => E a' 161 [(2, .slice imagesA images.length imagesC), (3, .slice valsA vals.length valsC), (4, .pointer (some ⟨b5, 0, none⟩)), (5, .pointer (some ⟨b11, 0, none⟩)), (10, .slice b160 (((F_s_PullValues fp0 fp1 gp0 gp1 images vals).1).length) c161), (11, .int .i64 ((F_s_PullValues fp0 fp1 gp0 gp1 images vals).2)), (12, .pointer (some ⟨b185, 0, none⟩)), (13, .pointer (some ⟨b209, 0, none⟩)), (14, .slice b230 ((images).length) c231), (15, .slice b244 ((vals).length) c245), (16, .slice b264 (((F_PullValues fp0 fp1 gp0 gp1 images vals).1).length) c265), (17, .int .i64 ((F_PullValues fp0 fp1 gp0 gp1 images vals).2)), (75, .bool ((!(decide (((F_PullValues fp0 fp1 gp0 gp1 images vals).1) = ((F_s_PullValues fp0 fp1 gp0 gp1 images vals).1)))) || (!decide (((F_PullValues fp0 fp1 gp0 gp1 images vals).2) = ((F_s_PullValues fp0 fp1 gp0 gp1 images vals).2)))))] ∧ St w w' [.own 2 1 b264 (((F_PullValues fp0 fp1 gp0 gp1 images vals).1).length) c265 ((F_PullValues fp0 fp1 gp0 gp1 images vals).1), .own 2 1 b244 ((vals).length) c245 vals, .own 2 1 b230 ((images).length) c231 images, .own 2 1 b206 ((gp1).length) c207 gp1, .blk b209 #[.int .i64 gp0, .slice b206 ((gp1).length) c207] 53, .own 2 1 b182 ((fp1).length) c183 fp1, .blk b185 #[.int .i64 fp0, .slice b182 ((fp1).length) c183] 53, .own 2 1 b160 (((F_s_PullValues fp0 fp1 gp0 gp1 images vals).1).length) c161 ((F_s_PullValues fp0 fp1 gp0 gp1 images vals).1), .own 2 1 b151 ((vals).length) c152 vals, .own 2 1 b142 ((images).length) c143 images, .own 2 1 b133 ((gp1).length) c134 gp1, .own 2 1 b124 ((fp1).length) c125 fp1, .rd 1 gp1A gp1.length gp1C gp1, .blk b11 #[.int .i64 gp0, .slice gp1A gp1.length gp1C] 51, .rd 1 fp1A fp1.length fp1C fp1, .blk b5 #[.int .i64 fp0, .slice fp1A fp1.length fp1C] 51, .rd 1 valsA vals.length valsC vals, .rd 1 imagesA images.length imagesC images]) ?_ ?_
          ·
            refine c_reg ?_
            refine q_step (v := .slice b264 (((F_PullValues fp0 fp1 gp0 gp1 images vals).1).length) c265) hE278 (y_move rfl) rfl rfl rfl ?_; intro a279 hE280; clear hE278
            refine q_step (v := .slice b160 (((F_s_PullValues fp0 fp1 gp0 gp1 images vals).1).length) c161) hE280 (y_move rfl) rfl rfl rfl ?_; intro a281 hE282; clear hE280
            refine l_step hE282 rfl (l_call (f := 23) (argv := [.slice b264 (((F_PullValues fp0 fp1 gp0 gp1 images vals).1).length) c265, .slice b160 (((F_s_PullValues fp0 fp1 gp0 gp1 images vals).1).length) c161]) hE282 (fun _ => cf_l_eqInt64S _ _) rfl rfl (d_l_eqInt64S b264 (((F_PullValues fp0 fp1 gp0 gp1 images vals).1).length) c265 ((F_PullValues fp0 fp1 gp0 gp1 images vals).1) b160 (((F_s_PullValues fp0 fp1 gp0 gp1 images vals).1).length) c161 ((F_s_PullValues fp0 fp1 gp0 gp1 images vals).1) w259 (St.rdO (i := 0) hS262 rfl) (St.rdO (i := 7) hS262 rfl)) ?_)
            rintro _ w284 ⟨rfl, he288⟩ a285 hE286; clear hE282
            have hS287 := St.go hS262 he288; clear hS262
            refine q_step (v := .bool (!(decide (((F_PullValues fp0 fp1 gp0 gp1 images vals).1) = ((F_s_PullValues fp0 fp1 gp0 gp1 images vals).1))))) hE286 (y_not rfl) rfl rfl rfl ?_; intro a289 hE290; clear hE286
            refine q_step (v := .bool (!(decide (((F_PullValues fp0 fp1 gp0 gp1 images vals).1) = ((F_s_PullValues fp0 fp1 gp0 gp1 images vals).1))))) hE290 (y_move rfl) rfl rfl rfl ?_; intro a291 hE292; clear hE290
            rcases Bool.eq_false_or_eq_true (!(decide (((F_PullValues fp0 fp1 gp0 gp1 images vals).1) = ((F_s_PullValues fp0 fp1 gp0 gp1 images vals).1)))) with hb293 | hb293
            ·
              have hE294 := hE292; rw [hb293] at hE294; clear hE292
              have ht295 := bn_t hb293
              have hp296 := of_decide_eq_false ht295
              refine q_skip hE294 rfl rfl rfl ?_; intro a297 hE298; clear hE294
              refine q_skip hE298 rfl rfl rfl ?_; intro a299 hE300; clear hE298
              refine q_skip hE300 rfl rfl rfl ?_; intro a301 hE302; clear hE300
              refine q_step (v := .bool true) hE302 (y_pick (b := true) rfl rfl) rfl rfl rfl ?_; intro a303 hE304; clear hE302
              refine c_nil ?_
              have hE305 := hE304.sub (L' := [(2, .slice imagesA images.length imagesC), (3, .slice valsA vals.length valsC), (4, .pointer (some ⟨b5, 0, none⟩)), (5, .pointer (some ⟨b11, 0, none⟩)), (10, .slice b160 (((F_s_PullValues fp0 fp1 gp0 gp1 images vals).1).length) c161), (11, .int .i64 ((F_s_PullValues fp0 fp1 gp0 gp1 images vals).2)), (12, .pointer (some ⟨b185, 0, none⟩)), (13, .pointer (some ⟨b209, 0, none⟩)), (14, .slice b230 ((images).length) c231), (15, .slice b244 ((vals).length) c245), (16, .slice b264 (((F_PullValues fp0 fp1 gp0 gp1 images vals).1).length) c265), (17, .int .i64 ((F_PullValues fp0 fp1 gp0 gp1 images vals).2)), (75, .bool true)]) ⟨rfl, rfl, rfl, rfl, rfl, rfl, rfl, rfl, rfl, rfl, rfl, rfl, rfl, trivial⟩; clear hE304
              refine p_tn ?_
              have hE306 := hE305.sub (L' := [(2, .slice imagesA images.length imagesC), (3, .slice valsA vals.length valsC), (4, .pointer (some ⟨b5, 0, none⟩)), (5, .pointer (some ⟨b11, 0, none⟩)), (10, .slice b160 (((F_s_PullValues fp0 fp1 gp0 gp1 images vals).1).length) c161), (11, .int .i64 ((F_s_PullValues fp0 fp1 gp0 gp1 images vals).2)), (12, .pointer (some ⟨b185, 0, none⟩)), (13, .pointer (some ⟨b209, 0, none⟩)), (14, .slice b230 ((images).length) c231), (15, .slice b244 ((vals).length) c245), (16, .slice b264 (((F_PullValues fp0 fp1 gp0 gp1 images vals).1).length) c265), (17, .int .i64 ((F_PullValues fp0 fp1 gp0 gp1 images vals).2)), (75, .bool true)]) ⟨rfl, rfl, rfl, rfl, rfl, rfl, rfl, rfl, rfl, rfl, rfl, rfl, rfl, trivial⟩
              have hS307 := (St.pick (Γ' := [.own 2 1 b264 (((F_PullValues fp0 fp1 gp0 gp1 images vals).1).length) c265 ((F_PullValues fp0 fp1 gp0 gp1 images vals).1), .own 2 1 b244 ((vals).length) c245 vals, .own 2 1 b230 ((images).length) c231 images, .own 2 1 b206 ((gp1).length) c207 gp1, .blk b209 #[.int .i64 gp0, .slice b206 ((gp1).length) c207] 53, .own 2 1 b182 ((fp1).length) c183 fp1, .blk b185 #[.int .i64 fp0, .slice b182 ((fp1).length) c183] 53, .own 2 1 b160 (((F_s_PullValues fp0 fp1 gp0 gp1 images vals).1).length) c161 ((F_s_PullValues fp0 fp1 gp0 gp1 images vals).1), .own 2 1 b151 ((vals).length) c152 vals, .own 2 1 b142 ((images).length) c143 images, .own 2 1 b133 ((gp1).length) c134 gp1, .own 2 1 b124 ((fp1).length) c125 fp1, .rd 1 gp1A gp1.length gp1C gp1, .blk b11 #[.int .i64 gp0, .slice gp1A gp1.length gp1C] 51, .rd 1 fp1A fp1.length fp1C fp1, .blk b5 #[.int .i64 fp0, .slice fp1A fp1.length fp1C] 51, .rd 1 valsA vals.length valsC vals, .rd 1 imagesA images.length imagesC images]) hS287 [0, 1, 2, 4, 3, 6, 5, 7, 8, 9, 10, 11, 16, 12, 17, 13, 14, 15] (by decide) rfl)
              exact ⟨(by rw [hb293]; exact hE306), hS307⟩
            ·
              have hE308 := hE292; rw [hb293] at hE308; clear hE292
              have ht309 := bn_f hb293
              have hp310 := of_decide_eq_true ht309
              refine q_step (v := .int .i64 ((F_PullValues fp0 fp1 gp0 gp1 images vals).2)) hE308 (y_move rfl) rfl rfl rfl ?_; intro a311 hE312; clear hE308
              refine q_step (v := .int .i64 ((F_s_PullValues fp0 fp1 gp0 gp1 images vals).2)) hE312 (y_move rfl) rfl rfl rfl ?_; intro a313 hE314; clear hE312
              refine q_step (v := .bool (!decide (((F_PullValues fp0 fp1 gp0 gp1 images vals).2) = ((F_s_PullValues fp0 fp1 gp0 gp1 images vals).2)))) hE314 (y_neq rfl rfl) rfl rfl rfl ?_; intro a315 hE316; clear hE314
              refine q_step (v := .bool (!decide (((F_PullValues fp0 fp1 gp0 gp1 images vals).2) = ((F_s_PullValues fp0 fp1 gp0 gp1 images vals).2)))) hE316 (y_pick (b := false) rfl rfl) rfl rfl rfl ?_; intro a317 hE318; clear hE316
              refine c_nil ?_
              have hE319 := hE318.sub (L' := [(2, .slice imagesA images.length imagesC), (3, .slice valsA vals.length valsC), (4, .pointer (some ⟨b5, 0, none⟩)), (5, .pointer (some ⟨b11, 0, none⟩)), (10, .slice b160 (((F_s_PullValues fp0 fp1 gp0 gp1 images vals).1).length) c161), (11, .int .i64 ((F_s_PullValues fp0 fp1 gp0 gp1 images vals).2)), (12, .pointer (some ⟨b185, 0, none⟩)), (13, .pointer (some ⟨b209, 0, none⟩)), (14, .slice b230 ((images).length) c231), (15, .slice b244 ((vals).length) c245), (16, .slice b264 (((F_PullValues fp0 fp1 gp0 gp1 images vals).1).length) c265), (17, .int .i64 ((F_PullValues fp0 fp1 gp0 gp1 images vals).2)), (75, .bool (!decide (((F_PullValues fp0 fp1 gp0 gp1 images vals).2) = ((F_s_PullValues fp0 fp1 gp0 gp1 images vals).2))))]) ⟨rfl, rfl, rfl, rfl, rfl, rfl, rfl, rfl, rfl, rfl, rfl, rfl, rfl, trivial⟩; clear hE318
              refine p_tn ?_
              have hE320 := hE319.sub (L' := [(2, .slice imagesA images.length imagesC), (3, .slice valsA vals.length valsC), (4, .pointer (some ⟨b5, 0, none⟩)), (5, .pointer (some ⟨b11, 0, none⟩)), (10, .slice b160 (((F_s_PullValues fp0 fp1 gp0 gp1 images vals).1).length) c161), (11, .int .i64 ((F_s_PullValues fp0 fp1 gp0 gp1 images vals).2)), (12, .pointer (some ⟨b185, 0, none⟩)), (13, .pointer (some ⟨b209, 0, none⟩)), (14, .slice b230 ((images).length) c231), (15, .slice b244 ((vals).length) c245), (16, .slice b264 (((F_PullValues fp0 fp1 gp0 gp1 images vals).1).length) c265), (17, .int .i64 ((F_PullValues fp0 fp1 gp0 gp1 images vals).2)), (75, .bool (!decide (((F_PullValues fp0 fp1 gp0 gp1 images vals).2) = ((F_s_PullValues fp0 fp1 gp0 gp1 images vals).2))))]) ⟨rfl, rfl, rfl, rfl, rfl, rfl, rfl, rfl, rfl, rfl, rfl, rfl, rfl, trivial⟩
              have hS321 := (St.pick (Γ' := [.own 2 1 b264 (((F_PullValues fp0 fp1 gp0 gp1 images vals).1).length) c265 ((F_PullValues fp0 fp1 gp0 gp1 images vals).1), .own 2 1 b244 ((vals).length) c245 vals, .own 2 1 b230 ((images).length) c231 images, .own 2 1 b206 ((gp1).length) c207 gp1, .blk b209 #[.int .i64 gp0, .slice b206 ((gp1).length) c207] 53, .own 2 1 b182 ((fp1).length) c183 fp1, .blk b185 #[.int .i64 fp0, .slice b182 ((fp1).length) c183] 53, .own 2 1 b160 (((F_s_PullValues fp0 fp1 gp0 gp1 images vals).1).length) c161 ((F_s_PullValues fp0 fp1 gp0 gp1 images vals).1), .own 2 1 b151 ((vals).length) c152 vals, .own 2 1 b142 ((images).length) c143 images, .own 2 1 b133 ((gp1).length) c134 gp1, .own 2 1 b124 ((fp1).length) c125 fp1, .rd 1 gp1A gp1.length gp1C gp1, .blk b11 #[.int .i64 gp0, .slice gp1A gp1.length gp1C] 51, .rd 1 fp1A fp1.length fp1C fp1, .blk b5 #[.int .i64 fp0, .slice fp1A fp1.length fp1C] 51, .rd 1 valsA vals.length valsC vals, .rd 1 imagesA images.length imagesC images]) hS287 [0, 1, 2, 4, 3, 6, 5, 7, 8, 9, 10, 11, 16, 12, 17, 13, 14, 15] (by decide) rfl)
              exact ⟨(by rw [hb293]; exact hE320), hS321⟩
          ·
            rintro a322 w323 ⟨hE324, hS325⟩; clear hE278 hS262
            refine c_cond hE324 rfl (fun ht326 => ?_) (fun ht326 => ?_)
            ·
              have hE327 := hE324; rw [ht326] at hE327; clear hE324
              refine c_seq ?_
              refine c_reg ?_
              refine q_step (v := .bool false) hE327 (y_assign rfl) rfl rfl rfl ?_; intro a328 hE329; clear hE327
              refine c_nil ?_
              have hE330 := hE329.sub (L' := [(8, .bool false)]) ⟨rfl, trivial⟩; clear hE329
              refine p_tn ?_
              refine wp_ret ?_
              refine p_tr ?_
              have hF : F_l_FnExactPullValues fp0 fp1 gp0 gp1 images vals = false := by unfold F_l_FnExactPullValues; rw [ht326, ht98, ht71, ht42, ht27]; first | done | rfl
              refine c_ret1 hE330 rfl rfl ?_
              exact ⟨(by rw [hF]; first | done | rfl), hS325.ext⟩
            ·
              obtain ⟨ht331, ht332⟩ := bor_f ht326
              have ht333 := bn_f ht331
              have hp334 := of_decide_eq_true ht333
              have ht335 := bn_f ht332
              have hp336 := of_decide_eq_true ht335
              have hE337 := hE324; rw [ht326] at hE337; clear hE324
              refine wp_skip ?_
              refine p_tn ?_
              refine c_seq ?_
              refine c_seq ?_
              refine d_start (fun w' => w'.heap[b185]? = some (.cells #[.int .i64 fp0, .slice b182 ((fp1).length) c183] 53 (0, 0)) ∧ w'.heap[b5]? = some (.cells #[.int .i64 fp0, .slice fp1A fp1.length fp1C] 51 (0, 0)) ∧ True) [0, 1] 5 (by kernel_rfl) rfl ?_
              intro w338 he339; have hS340 := St.go hS325 he339; clear hS325
              refine d_take (v := .agg #[.int .i64 fp0, .slice b182 ((fp1).length) c183]) 0 rfl hE337 ⟨(St.row (i := 6) hS340 rfl _ (Ext.refl _)), (St.row (i := 15) hS340 rfl _ (Ext.refl _)), trivial⟩ (y_loadS Try.underlying53 rfl (by kernel_rfl) rfl (fun _ h => h.1)) rfl rfl (by kernel_rfl) (by kernel_rfl) (by kernel_rfl) rfl rfl (fun _ _ _ h => h) ?_; intro a341 hE342; clear hE337
              refine d_take (v := .agg #[.int .i64 fp0, .slice fp1A fp1.length fp1C]) 1 rfl hE342 ⟨(St.row (i := 6) hS340 rfl _ (Ext.refl _)), (St.row (i := 15) hS340 rfl _ (Ext.refl _)), trivial⟩ (y_loadS Try.underlying51 rfl (by kernel_rfl) rfl (fun _ h => h.2.1)) rfl rfl (by kernel_rfl) (by kernel_rfl) (by kernel_rfl) rfl rfl (fun _ _ _ h => h) ?_; intro a343 hE344; clear hE342
              refine d_only 2 (by kernel_rfl) rfl hE344 rfl (l_call (f := 38) (argv := [.agg #[.int .i64 fp0, .slice fp1A fp1.length fp1C]]) hE344 (fun _ => cf_l_toFrame _ _) rfl rfl (d_l_toFrame fp0 fp1A fp1.length fp1C fp1 w338 (St.rdR (i := 14) hS340 rfl) (by first | omega | (simp only [marked_len]; omega))) ?_)
              rintro _ w346 ⟨b351, c352, rfl, ho353, he350⟩ a347 hE348; clear hE344
              have hS349 := St.own hS340 he350 ho353; clear hS340
              refine ⟨fun _ _ => ⟨(St.row (i := 7) hS349 rfl _ (Ext.refl _)), (St.row (i := 16) hS349 rfl _ (Ext.refl _)), trivial⟩, ?_⟩
              refine d_only 3 (by kernel_rfl) rfl hE348 rfl (l_call (f := 40) (argv := [.agg #[.int .i64 fp0, .slice b182 ((fp1).length) c183], .agg #[.int .i64 fp0, .slice b351 ((fp1).length) c352]]) hE348 (fun _ => cf_l_eqFrame _ _) rfl rfl (d_l_eqFrame fp0 b182 ((fp1).length) c183 fp1 fp0 b351 ((fp1).length) c352 fp1 w346 (St.rdO (i := 6) hS349 rfl) (St.rdO (i := 0) hS349 rfl)) ?_)
              rintro _ w355 ⟨rfl, he359⟩ a356 hE357; clear hE348
              have hS358 := St.go hS349 he359; clear hS349
              refine ⟨fun _ _ => ⟨(St.row (i := 7) hS358 rfl _ (Ext.refl _)), (St.row (i := 16) hS358 rfl _ (Ext.refl _)), trivial⟩, ?_⟩
              refine d_pure (v := .bool (!(decide ((fp0, fp1) = (fp0, fp1))))) 4 rfl hE357 (y_not rfl) rfl (by kernel_rfl) (by kernel_rfl) (by kernel_rfl) rfl rfl (fun _ _ _ h => h) ?_; intro a360 hE361; clear hE357
              refine d_done (by kernel_rfl) ?_
              have hE362 := hE361.sub (L' := [(2, .slice imagesA images.length imagesC), (3, .slice valsA vals.length valsC), (4, .pointer (some ⟨b5, 0, none⟩)), (5, .pointer (some ⟨b11, 0, none⟩)), (10, .slice b160 (((F_s_PullValues fp0 fp1 gp0 gp1 images vals).1).length) c161), (11, .int .i64 ((F_s_PullValues fp0 fp1 gp0 gp1 images vals).2)), (12, .pointer (some ⟨b185, 0, none⟩)), (13, .pointer (some ⟨b209, 0, none⟩)), (14, .slice b230 ((images).length) c231), (15, .slice b244 ((vals).length) c245), (16, .slice b264 (((F_PullValues fp0 fp1 gp0 gp1 images vals).1).length) c265), (17, .int .i64 ((F_PullValues fp0 fp1 gp0 gp1 images vals).2)), (80, .bool (!(decide ((fp0, fp1) = (fp0, fp1)))))]) ⟨rfl, rfl, rfl, rfl, rfl, rfl, rfl, rfl, rfl, rfl, rfl, rfl, rfl, trivial⟩; clear hE361
              refine p_tn ?_
              refine c_cond hE362 rfl (fun ht363 => ?_) (fun ht363 => ?_)
              ·
                have ht364 := bn_t ht363
                have hp365 := of_decide_eq_false ht364
                have hE366 := hE362; rw [ht363] at hE366; clear hE362
                refine c_seq ?_
                refine c_reg ?_
                refine q_step (v := .bool false) hE366 (y_assign rfl) rfl rfl rfl ?_; intro a367 hE368; clear hE366
                refine c_nil ?_
                have hE369 := hE368.sub (L' := [(8, .bool false)]) ⟨rfl, trivial⟩; clear hE368
                refine p_tn ?_
                refine wp_ret ?_
                refine p_tr ?_
                have hF : F_l_FnExactPullValues fp0 fp1 gp0 gp1 images vals = false := by unfold F_l_FnExactPullValues; rw [ht363, ht326, ht98, ht71, ht42, ht27]; first | done | rfl
                refine c_ret1 hE369 rfl rfl ?_
                exact ⟨(by rw [hF]; first | done | rfl), hS358.ext⟩
              ·
                have ht370 := bn_f ht363
                have hp371 := of_decide_eq_true ht370
                have hE372 := hE362; rw [ht363] at hE372; clear hE362
                refine wp_skip ?_
                refine p_tn ?_
                refine c_seq ?_
                refine c_seq ?_
                refine d_start (fun w' => w'.heap[b209]? = some (.cells #[.int .i64 gp0, .slice b206 ((gp1).length) c207] 53 (0, 0)) ∧ w'.heap[b11]? = some (.cells #[.int .i64 gp0, .slice gp1A gp1.length gp1C] 51 (0, 0)) ∧ True) [0, 1] 5 (by kernel_rfl) rfl ?_
                intro w373 he374; have hS375 := St.go hS358 he374; clear hS358
                refine d_take (v := .agg #[.int .i64 gp0, .slice b206 ((gp1).length) c207]) 0 rfl hE372 ⟨(St.row (i := 5) hS375 rfl _ (Ext.refl _)), (St.row (i := 14) hS375 rfl _ (Ext.refl _)), trivial⟩ (y_loadS Try.underlying53 rfl (by kernel_rfl) rfl (fun _ h => h.1)) rfl rfl (by kernel_rfl) (by kernel_rfl) (by kernel_rfl) rfl rfl (fun _ _ _ h => h) ?_; intro a376 hE377; clear hE372
                refine d_take (v := .agg #[.int .i64 gp0, .slice gp1A gp1.length gp1C]) 1 rfl hE377 ⟨(St.row (i := 5) hS375 rfl _ (Ext.refl _)), (St.row (i := 14) hS375 rfl _ (Ext.refl _)), trivial⟩ (y_loadS Try.underlying51 rfl (by kernel_rfl) rfl (fun _ h => h.2.1)) rfl rfl (by kernel_rfl) (by kernel_rfl) (by kernel_rfl) rfl rfl (fun _ _ _ h => h) ?_; intro a378 hE379; clear hE377
                refine d_only 2 (by kernel_rfl) rfl hE379 rfl (l_call (f := 38) (argv := [.agg #[.int .i64 gp0, .slice gp1A gp1.length gp1C]]) hE379 (fun _ => cf_l_toFrame _ _) rfl rfl (d_l_toFrame gp0 gp1A gp1.length gp1C gp1 w373 (St.rdR (i := 13) hS375 rfl) (by first | omega | (simp only [marked_len]; omega))) ?_)
                rintro _ w381 ⟨b386, c387, rfl, ho388, he385⟩ a382 hE383; clear hE379
                have hS384 := St.own hS375 he385 ho388; clear hS375
                refine ⟨fun _ _ => ⟨(St.row (i := 6) hS384 rfl _ (Ext.refl _)), (St.row (i := 15) hS384 rfl _ (Ext.refl _)), trivial⟩, ?_⟩
                refine d_only 3 (by kernel_rfl) rfl hE383 rfl (l_call (f := 40) (argv := [.agg #[.int .i64 gp0, .slice b206 ((gp1).length) c207], .agg #[.int .i64 gp0, .slice b386 ((gp1).length) c387]]) hE383 (fun _ => cf_l_eqFrame _ _) rfl rfl (d_l_eqFrame gp0 b206 ((gp1).length) c207 gp1 gp0 b386 ((gp1).length) c387 gp1 w381 (St.rdO (i := 5) hS384 rfl) (St.rdO (i := 0) hS384 rfl)) ?_)
                rintro _ w390 ⟨rfl, he394⟩ a391 hE392; clear hE383
                have hS393 := St.go hS384 he394; clear hS384
                refine ⟨fun _ _ => ⟨(St.row (i := 6) hS393 rfl _ (Ext.refl _)), (St.row (i := 15) hS393 rfl _ (Ext.refl _)), trivial⟩, ?_⟩
                refine d_pure (v := .bool (!(decide ((gp0, gp1) = (gp0, gp1))))) 4 rfl hE392 (y_not rfl) rfl (by kernel_rfl) (by kernel_rfl) (by kernel_rfl) rfl rfl (fun _ _ _ h => h) ?_; intro a395 hE396; clear hE392
                refine d_done (by kernel_rfl) ?_
                have hE397 := hE396.sub (L' := [(2, .slice imagesA images.length imagesC), (3, .slice valsA vals.length valsC), (4, .pointer (some ⟨b5, 0, none⟩)), (5, .pointer (some ⟨b11, 0, none⟩)), (10, .slice b160 (((F_s_PullValues fp0 fp1 gp0 gp1 images vals).1).length) c161), (11, .int .i64 ((F_s_PullValues fp0 fp1 gp0 gp1 images vals).2)), (12, .pointer (some ⟨b185, 0, none⟩)), (13, .pointer (some ⟨b209, 0, none⟩)), (14, .slice b230 ((images).length) c231), (15, .slice b244 ((vals).length) c245), (16, .slice b264 (((F_PullValues fp0 fp1 gp0 gp1 images vals).1).length) c265), (17, .int .i64 ((F_PullValues fp0 fp1 gp0 gp1 images vals).2)), (85, .bool (!(decide ((gp0, gp1) = (gp0, gp1)))))]) ⟨rfl, rfl, rfl, rfl, rfl, rfl, rfl, rfl, rfl, rfl, rfl, rfl, rfl, trivial⟩; clear hE396
                refine p_tn ?_
                refine c_cond hE397 rfl (fun ht398 => ?_) (fun ht398 => ?_)
                ·
                  have ht399 := bn_t ht398
                  have hp400 := of_decide_eq_false ht399
                  have hE401 := hE397; rw [ht398] at hE401; clear hE397
                  refine c_seq ?_
                  refine c_reg ?_
                  refine q_step (v := .bool false) hE401 (y_assign rfl) rfl rfl rfl ?_; intro a402 hE403; clear hE401
                  refine c_nil ?_
                  have hE404 := hE403.sub (L' := [(8, .bool false)]) ⟨rfl, trivial⟩; clear hE403
                  refine p_tn ?_
                  refine wp_ret ?_
                  refine p_tr ?_
                  have hF : F_l_FnExactPullValues fp0 fp1 gp0 gp1 images vals = false := by unfold F_l_FnExactPullValues; rw [ht398, ht363, ht326, ht98, ht71, ht42, ht27]; first | done | rfl
                  refine c_ret1 hE404 rfl rfl ?_
                  exact ⟨(by rw [hF]; first | done | rfl), hS393.ext⟩
                ·
                  have ht405 := bn_f ht398
                  have hp406 := of_decide_eq_true ht405
                  have hE407 := hE397; rw [ht398] at hE407; clear hE397
                  refine wp_skip ?_
                  refine p_tn ?_
                  refine c_seq ?_
                  refine c_seq ?_
                  refine c_reg ?_
                  refine q_step (v := .slice b230 ((images).length) c231) hE407 (y_move rfl) rfl rfl rfl ?_; intro a408 hE409; clear hE407
                  refine q_step (v := .slice imagesA images.length imagesC) hE409 (y_move rfl) rfl rfl rfl ?_; intro a410 hE411; clear hE409
                  refine l_step hE411 rfl (l_call (f := 21) (argv := [.slice imagesA images.length imagesC]) hE411 (fun _ => cf_l_toInt64S _ _) rfl rfl (d_l_toInt64S imagesA images.length imagesC images w390 (St.rdR (i := 19) hS393 rfl) (by first | omega | (simp only [marked_len]; omega))) ?_)
                  rintro _ w413 ⟨b418, c419, rfl, ho420, he417⟩ a414 hE415; clear hE411
                  have hS416 := St.own hS393 he417 ho420; clear hS393
                  refine l_step hE415 rfl (l_call (f := 23) (argv := [.slice b230 ((images).length) c231, .slice b418 ((images).length) c419]) hE415 (fun _ => cf_l_eqInt64S _ _) rfl rfl (d_l_eqInt64S b230 ((images).length) c231 images b418 ((images).length) c419 images w413 (St.rdO (i := 5) hS416 rfl) (St.rdO (i := 0) hS416 rfl)) ?_)
                  rintro _ w422 ⟨rfl, he426⟩ a423 hE424; clear hE415
                  have hS425 := St.go hS416 he426; clear hS416
                  refine q_step (v := .bool (!(decide (images = images)))) hE424 (y_not rfl) rfl rfl rfl ?_; intro a427 hE428; clear hE424
                  refine c_nil ?_
                  have hE429 := hE428.sub (L' := [(2, .slice imagesA images.length imagesC), (3, .slice valsA vals.length valsC), (4, .pointer (some ⟨b5, 0, none⟩)), (5, .pointer (some ⟨b11, 0, none⟩)), (10, .slice b160 (((F_s_PullValues fp0 fp1 gp0 gp1 images vals).1).length) c161), (11, .int .i64 ((F_s_PullValues fp0 fp1 gp0 gp1 images vals).2)), (12, .pointer (some ⟨b185, 0, none⟩)), (13, .pointer (some ⟨b209, 0, none⟩)), (14, .slice b230 ((images).length) c231), (15, .slice b244 ((vals).length) c245), (16, .slice b264 (((F_PullValues fp0 fp1 gp0 gp1 images vals).1).length) c265), (17, .int .i64 ((F_PullValues fp0 fp1 gp0 gp1 images vals).2)), (90, .bool (!(decide (images = images))))]) ⟨rfl, rfl, rfl, rfl, rfl, rfl, rfl, rfl, rfl, rfl, rfl, rfl, rfl, trivial⟩; clear hE428
                  refine p_tn ?_
                  refine c_cond hE429 rfl (fun ht430 => ?_) (fun ht430 => ?_)
                  ·
                    have ht431 := bn_t ht430
                    have hp432 := of_decide_eq_false ht431
                    have hE433 := hE429; rw [ht430] at hE433; clear hE429
                    refine c_seq ?_
                    refine c_reg ?_
                    refine q_step (v := .bool false) hE433 (y_assign rfl) rfl rfl rfl ?_; intro a434 hE435; clear hE433
                    refine c_nil ?_
                    have hE436 := hE435.sub (L' := [(8, .bool false)]) ⟨rfl, trivial⟩; clear hE435
                    refine p_tn ?_
                    refine wp_ret ?_
                    refine p_tr ?_
                    have hF : F_l_FnExactPullValues fp0 fp1 gp0 gp1 images vals = false := by unfold F_l_FnExactPullValues; rw [ht430, ht398, ht363, ht326, ht98, ht71, ht42, ht27]; first | done | rfl
                    refine c_ret1 hE436 rfl rfl ?_
                    exact ⟨(by rw [hF]; first | done | rfl), hS425.ext⟩
                  ·
                    have ht437 := bn_f ht430
                    have hp438 := of_decide_eq_true ht437
                    have hE439 := hE429; rw [ht430] at hE439; clear hE429
                    refine wp_skip ?_
                    refine p_tn ?_
                    refine c_seq ?_
                    refine c_seq ?_
                    refine c_reg ?_
                    refine q_step (v := .slice b244 ((vals).length) c245) hE439 (y_move rfl) rfl rfl rfl ?_; intro a440 hE441; clear hE439
                    refine q_step (v := .slice valsA vals.length valsC) hE441 (y_move rfl) rfl rfl rfl ?_; intro a442 hE443; clear hE441
                    refine l_step hE443 rfl (l_call (f := 21) (argv := [.slice valsA vals.length valsC]) hE443 (fun _ => cf_l_toInt64S _ _) rfl rfl (d_l_toInt64S valsA vals.length valsC vals w422 (St.rdR (i := 19) hS425 rfl) (by first | omega | (simp only [marked_len]; omega))) ?_)
                    rintro _ w445 ⟨b450, c451, rfl, ho452, he449⟩ a446 hE447; clear hE443
                    have hS448 := St.own hS425 he449 ho452; clear hS425
                    refine l_step hE447 rfl (l_call (f := 23) (argv := [.slice b244 ((vals).length) c245, .slice b450 ((vals).length) c451]) hE447 (fun _ => cf_l_eqInt64S _ _) rfl rfl (d_l_eqInt64S b244 ((vals).length) c245 vals b450 ((vals).length) c451 vals w445 (St.rdO (i := 5) hS448 rfl) (St.rdO (i := 0) hS448 rfl)) ?_)
                    rintro _ w454 ⟨rfl, he458⟩ a455 hE456; clear hE447
                    have hS457 := St.go hS448 he458; clear hS448
                    refine q_step (v := .bool (!(decide (vals = vals)))) hE456 (y_not rfl) rfl rfl rfl ?_; intro a459 hE460; clear hE456
                    refine c_nil ?_
                    have hE461 := hE460.sub (L' := [(2, .slice imagesA images.length imagesC), (3, .slice valsA vals.length valsC), (4, .pointer (some ⟨b5, 0, none⟩)), (5, .pointer (some ⟨b11, 0, none⟩)), (10, .slice b160 (((F_s_PullValues fp0 fp1 gp0 gp1 images vals).1).length) c161), (11, .int .i64 ((F_s_PullValues fp0 fp1 gp0 gp1 images vals).2)), (12, .pointer (some ⟨b185, 0, none⟩)), (13, .pointer (some ⟨b209, 0, none⟩)), (14, .slice b230 ((images).length) c231), (15, .slice b244 ((vals).length) c245), (16, .slice b264 (((F_PullValues fp0 fp1 gp0 gp1 images vals).1).length) c265), (17, .int .i64 ((F_PullValues fp0 fp1 gp0 gp1 images vals).2)), (95, .bool (!(decide (vals = vals))))]) ⟨rfl, rfl, rfl, rfl, rfl, rfl, rfl, rfl, rfl, rfl, rfl, rfl, rfl, trivial⟩; clear hE460
                    refine p_tn ?_
                    refine c_cond hE461 rfl (fun ht462 => ?_) (fun ht462 => ?_)
                    ·
                      have ht463 := bn_t ht462
                      have hp464 := of_decide_eq_false ht463
                      have hE465 := hE461; rw [ht462] at hE465; clear hE461
                      refine c_seq ?_
                      refine c_reg ?_
                      refine q_step (v := .bool false) hE465 (y_assign rfl) rfl rfl rfl ?_; intro a466 hE467; clear hE465
                      refine c_nil ?_
                      have hE468 := hE467.sub (L' := [(8, .bool false)]) ⟨rfl, trivial⟩; clear hE467
                      refine p_tn ?_
                      refine wp_ret ?_
                      refine p_tr ?_
                      have hF : F_l_FnExactPullValues fp0 fp1 gp0 gp1 images vals = false := by unfold F_l_FnExactPullValues; rw [ht462, ht430, ht398, ht363, ht326, ht98, ht71, ht42, ht27]; first | done | rfl
                      refine c_ret1 hE468 rfl rfl ?_
                      exact ⟨(by rw [hF]; first | done | rfl), hS457.ext⟩
                    ·
                      have ht469 := bn_f ht462
                      have hp470 := of_decide_eq_true ht469
                      have hE471 := hE461; rw [ht462] at hE471; clear hE461
                      refine wp_skip ?_
                      refine p_tn ?_
                      refine c_seq ?_
                      refine c_reg ?_
                      refine q_step (v := .int .i64 1) hE471 (y_assign rfl) rfl rfl rfl ?_; intro a472 hE473; clear hE471
                      refine c_nil ?_
                      have hE474 := hE473.sub (L' := [(2, .slice imagesA images.length imagesC), (3, .slice valsA vals.length valsC), (4, .pointer (some ⟨b5, 0, none⟩)), (5, .pointer (some ⟨b11, 0, none⟩)), (10, .slice b160 (((F_s_PullValues fp0 fp1 gp0 gp1 images vals).1).length) c161), (11, .int .i64 ((F_s_PullValues fp0 fp1 gp0 gp1 images vals).2)), (12, .pointer (some ⟨b185, 0, none⟩)), (13, .pointer (some ⟨b209, 0, none⟩)), (14, .slice b230 ((images).length) c231), (15, .slice b244 ((vals).length) c245), (16, .slice b264 (((F_PullValues fp0 fp1 gp0 gp1 images vals).1).length) c265), (17, .int .i64 ((F_PullValues fp0 fp1 gp0 gp1 images vals).2)), (18, .int .i64 1)]) ⟨rfl, rfl, rfl, rfl, rfl, rfl, rfl, rfl, rfl, rfl, rfl, rfl, rfl, trivial⟩; clear hE473
                      refine p_tn ?_
                      refine c_seq ?_
                      refine c_reg ?_
                      refine q_step (v := .agg #[.int .i64 fp0, .slice b182 ((fp1).length) c183]) hE474 (y_loadS Try.underlying53 rfl (by kernel_rfl) rfl (St.row (i := 10) hS457 rfl)) rfl rfl rfl ?_; intro a475 hE476; clear hE474
                      refine q_step (v := .int .i64 1) hE476 (y_move rfl) rfl rfl rfl ?_; intro a477 hE478; clear hE476
                      have hS485 := (St.pick (Γ' := [.own 2 1 b182 ((fp1).length) c183 fp1, .own 2 1 b450 ((vals).length) c451 vals, .own 2 1 b418 ((images).length) c419 images, .own 2 1 b386 ((gp1).length) c387 gp1, .own 2 1 b351 ((fp1).length) c352 fp1, .own 2 1 b264 (((F_PullValues fp0 fp1 gp0 gp1 images vals).1).length) c265 ((F_PullValues fp0 fp1 gp0 gp1 images vals).1), .own 2 1 b244 ((vals).length) c245 vals, .own 2 1 b230 ((images).length) c231 images, .own 2 1 b206 ((gp1).length) c207 gp1, .blk b209 #[.int .i64 gp0, .slice b206 ((gp1).length) c207] 53, .blk b185 #[.int .i64 fp0, .slice b182 ((fp1).length) c183] 53, .own 2 1 b160 (((F_s_PullValues fp0 fp1 gp0 gp1 images vals).1).length) c161 ((F_s_PullValues fp0 fp1 gp0 gp1 images vals).1), .own 2 1 b151 ((vals).length) c152 vals, .own 2 1 b142 ((images).length) c143 images, .own 2 1 b133 ((gp1).length) c134 gp1, .own 2 1 b124 ((fp1).length) c125 fp1, .rd 1 gp1A gp1.length gp1C gp1, .blk b11 #[.int .i64 gp0, .slice gp1A gp1.length gp1C] 51, .rd 1 fp1A fp1.length fp1C fp1, .blk b5 #[.int .i64 fp0, .slice fp1A fp1.length fp1C] 51, .rd 1 valsA vals.length valsC vals, .rd 1 imagesA images.length imagesC images]) hS457 [9, 0, 1, 2, 3, 4, 5, 6, 7, 8, 10, 11, 12, 13, 14, 15, 16, 17, 18, 19, 20, 21] (by decide) rfl); clear hS457
                      refine l_step hE478 rfl (l_call (f := 41) (argv := [.agg #[.int .i64 fp0, .slice b182 ((fp1).length) c183], .int .i64 1]) hE478 (fun _ => cf_l_markFrame _ _) rfl rfl (d_l_markFrame fp0 b182 ((fp1).length) c183 fp1 1 w454 w [.own 2 1 b450 ((vals).length) c451 vals, .own 2 1 b418 ((images).length) c419 images, .own 2 1 b386 ((gp1).length) c387 gp1, .own 2 1 b351 ((fp1).length) c352 fp1, .own 2 1 b264 (((F_PullValues fp0 fp1 gp0 gp1 images vals).1).length) c265 ((F_PullValues fp0 fp1 gp0 gp1 images vals).1), .own 2 1 b244 ((vals).length) c245 vals, .own 2 1 b230 ((images).length) c231 images, .own 2 1 b206 ((gp1).length) c207 gp1, .blk b209 #[.int .i64 gp0, .slice b206 ((gp1).length) c207] 53, .blk b185 #[.int .i64 fp0, .slice b182 ((fp1).length) c183] 53, .own 2 1 b160 (((F_s_PullValues fp0 fp1 gp0 gp1 images vals).1).length) c161 ((F_s_PullValues fp0 fp1 gp0 gp1 images vals).1), .own 2 1 b151 ((vals).length) c152 vals, .own 2 1 b142 ((images).length) c143 images, .own 2 1 b133 ((gp1).length) c134 gp1, .own 2 1 b124 ((fp1).length) c125 fp1, .rd 1 gp1A gp1.length gp1C gp1, .blk b11 #[.int .i64 gp0, .slice gp1A gp1.length gp1C] 51, .rd 1 fp1A fp1.length fp1C fp1, .blk b5 #[.int .i64 fp0, .slice fp1A fp1.length fp1C] 51, .rd 1 valsA vals.length valsC vals, .rd 1 imagesA images.length imagesC images] hS485 (by first | omega | (simp only [marked_len]; omega)) (by first | omega | (simp only [marked_len]; omega)) (by first | omega | (simp only [marked_len]; omega))) ?_)
                      rintro _ w480 ⟨rfl, hS483⟩ a481 hE482; clear hE478 hS485
                      refine q_step (v := .int .i64 (1 + (fp1.length : Int))) hE482 (y_assign rfl) rfl rfl rfl ?_; intro a486 hE487; clear hE482
                      refine c_nil ?_
                      have hE488 := hE487.sub (L' := [(2, .slice imagesA images.length imagesC), (3, .slice valsA vals.length valsC), (4, .pointer (some ⟨b5, 0, none⟩)), (5, .pointer (some ⟨b11, 0, none⟩)), (10, .slice b160 (((F_s_PullValues fp0 fp1 gp0 gp1 images vals).1).length) c161), (11, .int .i64 ((F_s_PullValues fp0 fp1 gp0 gp1 images vals).2)), (13, .pointer (some ⟨b209, 0, none⟩)), (14, .slice b230 ((images).length) c231), (15, .slice b244 ((vals).length) c245), (16, .slice b264 (((F_PullValues fp0 fp1 gp0 gp1 images vals).1).length) c265), (17, .int .i64 ((F_PullValues fp0 fp1 gp0 gp1 images vals).2)), (18, .int .i64 (1 + (fp1.length : Int)))]) ⟨rfl, rfl, rfl, rfl, rfl, rfl, rfl, rfl, rfl, rfl, rfl, rfl, trivial⟩; clear hE487
                      refine p_tn ?_
                      refine c_seq ?_
                      refine c_reg ?_
                      refine q_step (v := .agg #[.int .i64 gp0, .slice b206 ((gp1).length) c207]) hE488 (y_loadS Try.underlying53 rfl (by kernel_rfl) rfl (St.row (i := 9) hS483 rfl)) rfl rfl rfl ?_; intro a489 hE490; clear hE488
                      refine q_step (v := .int .i64 (1 + (fp1.length : Int))) hE490 (y_move rfl) rfl rfl rfl ?_; intro a491 hE492; clear hE490
                      have hS499 := (St.pick (Γ' := [.own 2 1 b206 ((gp1).length) c207 gp1, .own 2 1 b182 ((fp1).length) c183 (marked fp1.length 1), .own 2 1 b450 ((vals).length) c451 vals, .own 2 1 b418 ((images).length) c419 images, .own 2 1 b386 ((gp1).length) c387 gp1, .own 2 1 b351 ((fp1).length) c352 fp1, .own 2 1 b264 (((F_PullValues fp0 fp1 gp0 gp1 images vals).1).length) c265 ((F_PullValues fp0 fp1 gp0 gp1 images vals).1), .own 2 1 b244 ((vals).length) c245 vals, .own 2 1 b230 ((images).length) c231 images, .blk b209 #[.int .i64 gp0, .slice b206 ((gp1).length) c207] 53, .blk b185 #[.int .i64 fp0, .slice b182 ((fp1).length) c183] 53, .own 2 1 b160 (((F_s_PullValues fp0 fp1 gp0 gp1 images vals).1).length) c161 ((F_s_PullValues fp0 fp1 gp0 gp1 images vals).1), .own 2 1 b151 ((vals).length) c152 vals, .own 2 1 b142 ((images).length) c143 images, .own 2 1 b133 ((gp1).length) c134 gp1, .own 2 1 b124 ((fp1).length) c125 fp1, .rd 1 gp1A gp1.length gp1C gp1, .blk b11 #[.int .i64 gp0, .slice gp1A gp1.length gp1C] 51, .rd 1 fp1A fp1.length fp1C fp1, .blk b5 #[.int .i64 fp0, .slice fp1A fp1.length fp1C] 51, .rd 1 valsA vals.length valsC vals, .rd 1 imagesA images.length imagesC images]) hS483 [8, 0, 1, 2, 3, 4, 5, 6, 7, 9, 10, 11, 12, 13, 14, 15, 16, 17, 18, 19, 20, 21] (by decide) rfl); clear hS483
                      refine l_step hE492 rfl (l_call (f := 41) (argv := [.agg #[.int .i64 gp0, .slice b206 ((gp1).length) c207], .int .i64 (1 + (fp1.length : Int))]) hE492 (fun _ => cf_l_markFrame _ _) rfl rfl (d_l_markFrame gp0 b206 ((gp1).length) c207 gp1 (1 + (fp1.length : Int)) w480 w [.own 2 1 b182 ((fp1).length) c183 (marked fp1.length 1), .own 2 1 b450 ((vals).length) c451 vals, .own 2 1 b418 ((images).length) c419 images, .own 2 1 b386 ((gp1).length) c387 gp1, .own 2 1 b351 ((fp1).length) c352 fp1, .own 2 1 b264 (((F_PullValues fp0 fp1 gp0 gp1 images vals).1).length) c265 ((F_PullValues fp0 fp1 gp0 gp1 images vals).1), .own 2 1 b244 ((vals).length) c245 vals, .own 2 1 b230 ((images).length) c231 images, .blk b209 #[.int .i64 gp0, .slice b206 ((gp1).length) c207] 53, .blk b185 #[.int .i64 fp0, .slice b182 ((fp1).length) c183] 53, .own 2 1 b160 (((F_s_PullValues fp0 fp1 gp0 gp1 images vals).1).length) c161 ((F_s_PullValues fp0 fp1 gp0 gp1 images vals).1), .own 2 1 b151 ((vals).length) c152 vals, .own 2 1 b142 ((images).length) c143 images, .own 2 1 b133 ((gp1).length) c134 gp1, .own 2 1 b124 ((fp1).length) c125 fp1, .rd 1 gp1A gp1.length gp1C gp1, .blk b11 #[.int .i64 gp0, .slice gp1A gp1.length gp1C] 51, .rd 1 fp1A fp1.length fp1C fp1, .blk b5 #[.int .i64 fp0, .slice fp1A fp1.length fp1C] 51, .rd 1 valsA vals.length valsC vals, .rd 1 imagesA images.length imagesC images] hS499 (by first | omega | (simp only [marked_len]; omega)) (by first | omega | (simp only [marked_len]; omega)) (by first | omega | (simp only [marked_len]; omega))) ?_)
                      rintro _ w494 ⟨rfl, hS497⟩ a495 hE496; clear hE492 hS499
                      refine q_step (v := .int .i64 ((1 + (fp1.length : Int)) + (gp1.length : Int))) hE496 (y_assign rfl) rfl rfl rfl ?_; intro a500 hE501; clear hE496
                      refine c_nil ?_
                      have hE502 := hE501.sub (L' := [(2, .slice imagesA images.length imagesC), (3, .slice valsA vals.length valsC), (4, .pointer (some ⟨b5, 0, none⟩)), (5, .pointer (some ⟨b11, 0, none⟩)), (10, .slice b160 (((F_s_PullValues fp0 fp1 gp0 gp1 images vals).1).length) c161), (11, .int .i64 ((F_s_PullValues fp0 fp1 gp0 gp1 images vals).2)), (14, .slice b230 ((images).length) c231), (15, .slice b244 ((vals).length) c245), (16, .slice b264 (((F_PullValues fp0 fp1 gp0 gp1 images vals).1).length) c265), (17, .int .i64 ((F_PullValues fp0 fp1 gp0 gp1 images vals).2)), (18, .int .i64 ((1 + (fp1.length : Int)) + (gp1.length : Int)))]) ⟨rfl, rfl, rfl, rfl, rfl, rfl, rfl, rfl, rfl, rfl, rfl, trivial⟩; clear hE501
                      refine p_tn ?_
                      refine c_seq ?_
                      refine c_reg ?_
                      refine q_step (v := .slice b230 ((images).length) c231) hE502 (y_move rfl) rfl rfl rfl ?_; intro a503 hE504; clear hE502
                      refine q_step (v := .int .i64 ((1 + (fp1.length : Int)) + (gp1.length : Int))) hE504 (y_move rfl) rfl rfl rfl ?_; intro a505 hE506; clear hE504
                      have hS513 := (St.pick (Γ' := [.own 2 1 b230 ((images).length) c231 images, .own 2 1 b206 ((gp1).length) c207 (marked gp1.length (1 + (fp1.length : Int))), .own 2 1 b182 ((fp1).length) c183 (marked fp1.length 1), .own 2 1 b450 ((vals).length) c451 vals, .own 2 1 b418 ((images).length) c419 images, .own 2 1 b386 ((gp1).length) c387 gp1, .own 2 1 b351 ((fp1).length) c352 fp1, .own 2 1 b264 (((F_PullValues fp0 fp1 gp0 gp1 images vals).1).length) c265 ((F_PullValues fp0 fp1 gp0 gp1 images vals).1), .own 2 1 b244 ((vals).length) c245 vals, .blk b209 #[.int .i64 gp0, .slice b206 ((gp1).length) c207] 53, .blk b185 #[.int .i64 fp0, .slice b182 ((fp1).length) c183] 53, .own 2 1 b160 (((F_s_PullValues fp0 fp1 gp0 gp1 images vals).1).length) c161 ((F_s_PullValues fp0 fp1 gp0 gp1 images vals).1), .own 2 1 b151 ((vals).length) c152 vals, .own 2 1 b142 ((images).length) c143 images, .own 2 1 b133 ((gp1).length) c134 gp1, .own 2 1 b124 ((fp1).length) c125 fp1, .rd 1 gp1A gp1.length gp1C gp1, .blk b11 #[.int .i64 gp0, .slice gp1A gp1.length gp1C] 51, .rd 1 fp1A fp1.length fp1C fp1, .blk b5 #[.int .i64 fp0, .slice fp1A fp1.length fp1C] 51, .rd 1 valsA vals.length valsC vals, .rd 1 imagesA images.length imagesC images]) hS497 [8, 0, 1, 2, 3, 4, 5, 6, 7, 9, 10, 11, 12, 13, 14, 15, 16, 17, 18, 19, 20, 21] (by decide) rfl); clear hS497
                      refine l_step hE506 rfl (l_call (f := 24) (argv := [.slice b230 ((images).length) c231, .int .i64 ((1 + (fp1.length : Int)) + (gp1.length : Int))]) hE506 (fun _ => cf_l_markInt64S _ _) rfl rfl (d_l_markInt64S b230 ((images).length) c231 images ((1 + (fp1.length : Int)) + (gp1.length : Int)) w494 w [.own 2 1 b206 ((gp1).length) c207 (marked gp1.length (1 + (fp1.length : Int))), .own 2 1 b182 ((fp1).length) c183 (marked fp1.length 1), .own 2 1 b450 ((vals).length) c451 vals, .own 2 1 b418 ((images).length) c419 images, .own 2 1 b386 ((gp1).length) c387 gp1, .own 2 1 b351 ((fp1).length) c352 fp1, .own 2 1 b264 (((F_PullValues fp0 fp1 gp0 gp1 images vals).1).length) c265 ((F_PullValues fp0 fp1 gp0 gp1 images vals).1), .own 2 1 b244 ((vals).length) c245 vals, .blk b209 #[.int .i64 gp0, .slice b206 ((gp1).length) c207] 53, .blk b185 #[.int .i64 fp0, .slice b182 ((fp1).length) c183] 53, .own 2 1 b160 (((F_s_PullValues fp0 fp1 gp0 gp1 images vals).1).length) c161 ((F_s_PullValues fp0 fp1 gp0 gp1 images vals).1), .own 2 1 b151 ((vals).length) c152 vals, .own 2 1 b142 ((images).length) c143 images, .own 2 1 b133 ((gp1).length) c134 gp1, .own 2 1 b124 ((fp1).length) c125 fp1, .rd 1 gp1A gp1.length gp1C gp1, .blk b11 #[.int .i64 gp0, .slice gp1A gp1.length gp1C] 51, .rd 1 fp1A fp1.length fp1C fp1, .blk b5 #[.int .i64 fp0, .slice fp1A fp1.length fp1C] 51, .rd 1 valsA vals.length valsC vals, .rd 1 imagesA images.length imagesC images] hS513 (by first | omega | (simp only [marked_len]; omega)) (by first | omega | (simp only [marked_len]; omega)) (by first | omega | (simp only [marked_len]; omega))) ?_)
                      rintro _ w508 ⟨rfl, hS511⟩ a509 hE510; clear hE506 hS513
                      refine q_step (v := .int .i64 (((1 + (fp1.length : Int)) + (gp1.length : Int)) + (images.length : Int))) hE510 (y_assign rfl) rfl rfl rfl ?_; intro a514 hE515; clear hE510
                      refine c_nil ?_
                      have hE516 := hE515.sub (L' := [(2, .slice imagesA images.length imagesC), (3, .slice valsA vals.length valsC), (4, .pointer (some ⟨b5, 0, none⟩)), (5, .pointer (some ⟨b11, 0, none⟩)), (10, .slice b160 (((F_s_PullValues fp0 fp1 gp0 gp1 images vals).1).length) c161), (11, .int .i64 ((F_s_PullValues fp0 fp1 gp0 gp1 images vals).2)), (15, .slice b244 ((vals).length) c245), (16, .slice b264 (((F_PullValues fp0 fp1 gp0 gp1 images vals).1).length) c265), (17, .int .i64 ((F_PullValues fp0 fp1 gp0 gp1 images vals).2)), (18, .int .i64 (((1 + (fp1.length : Int)) + (gp1.length : Int)) + (images.length : Int)))]) ⟨rfl, rfl, rfl, rfl, rfl, rfl, rfl, rfl, rfl, rfl, trivial⟩; clear hE515
                      refine p_tn ?_
                      refine c_seq ?_
                      refine c_reg ?_
                      refine q_step (v := .slice b244 ((vals).length) c245) hE516 (y_move rfl) rfl rfl rfl ?_; intro a517 hE518; clear hE516
                      refine q_step (v := .int .i64 (((1 + (fp1.length : Int)) + (gp1.length : Int)) + (images.length : Int))) hE518 (y_move rfl) rfl rfl rfl ?_; intro a519 hE520; clear hE518
                      have hS527 := (St.pick (Γ' := [.own 2 1 b244 ((vals).length) c245 vals, .own 2 1 b230 ((images).length) c231 (marked images.length ((1 + (fp1.length : Int)) + (gp1.length : Int))), .own 2 1 b206 ((gp1).length) c207 (marked gp1.length (1 + (fp1.length : Int))), .own 2 1 b182 ((fp1).length) c183 (marked fp1.length 1), .own 2 1 b450 ((vals).length) c451 vals, .own 2 1 b418 ((images).length) c419 images, .own 2 1 b386 ((gp1).length) c387 gp1, .own 2 1 b351 ((fp1).length) c352 fp1, .own 2 1 b264 (((F_PullValues fp0 fp1 gp0 gp1 images vals).1).length) c265 ((F_PullValues fp0 fp1 gp0 gp1 images vals).1), .blk b209 #[.int .i64 gp0, .slice b206 ((gp1).length) c207] 53, .blk b185 #[.int .i64 fp0, .slice b182 ((fp1).length) c183] 53, .own 2 1 b160 (((F_s_PullValues fp0 fp1 gp0 gp1 images vals).1).length) c161 ((F_s_PullValues fp0 fp1 gp0 gp1 images vals).1), .own 2 1 b151 ((vals).length) c152 vals, .own 2 1 b142 ((images).length) c143 images, .own 2 1 b133 ((gp1).length) c134 gp1, .own 2 1 b124 ((fp1).length) c125 fp1, .rd 1 gp1A gp1.length gp1C gp1, .blk b11 #[.int .i64 gp0, .slice gp1A gp1.length gp1C] 51, .rd 1 fp1A fp1.length fp1C fp1, .blk b5 #[.int .i64 fp0, .slice fp1A fp1.length fp1C] 51, .rd 1 valsA vals.length valsC vals, .rd 1 imagesA images.length imagesC images]) hS511 [8, 0, 1, 2, 3, 4, 5, 6, 7, 9, 10, 11, 12, 13, 14, 15, 16, 17, 18, 19, 20, 21] (by decide) rfl); clear hS511
                      refine l_step hE520 rfl (l_call (f := 24) (argv := [.slice b244 ((vals).length) c245, .int .i64 (((1 + (fp1.length : Int)) + (gp1.length : Int)) + (images.length : Int))]) hE520 (fun _ => cf_l_markInt64S _ _) rfl rfl (d_l_markInt64S b244 ((vals).length) c245 vals (((1 + (fp1.length : Int)) + (gp1.length : Int)) + (images.length : Int)) w508 w [.own 2 1 b230 ((images).length) c231 (marked images.length ((1 + (fp1.length : Int)) + (gp1.length : Int))), .own 2 1 b206 ((gp1).length) c207 (marked gp1.length (1 + (fp1.length : Int))), .own 2 1 b182 ((fp1).length) c183 (marked fp1.length 1), .own 2 1 b450 ((vals).length) c451 vals, .own 2 1 b418 ((images).length) c419 images, .own 2 1 b386 ((gp1).length) c387 gp1, .own 2 1 b351 ((fp1).length) c352 fp1, .own 2 1 b264 (((F_PullValues fp0 fp1 gp0 gp1 images vals).1).length) c265 ((F_PullValues fp0 fp1 gp0 gp1 images vals).1), .blk b209 #[.int .i64 gp0, .slice b206 ((gp1).length) c207] 53, .blk b185 #[.int .i64 fp0, .slice b182 ((fp1).length) c183] 53, .own 2 1 b160 (((F_s_PullValues fp0 fp1 gp0 gp1 images vals).1).length) c161 ((F_s_PullValues fp0 fp1 gp0 gp1 images vals).1), .own 2 1 b151 ((vals).length) c152 vals, .own 2 1 b142 ((images).length) c143 images, .own 2 1 b133 ((gp1).length) c134 gp1, .own 2 1 b124 ((fp1).length) c125 fp1, .rd 1 gp1A gp1.length gp1C gp1, .blk b11 #[.int .i64 gp0, .slice gp1A gp1.length gp1C] 51, .rd 1 fp1A fp1.length fp1C fp1, .blk b5 #[.int .i64 fp0, .slice fp1A fp1.length fp1C] 51, .rd 1 valsA vals.length valsC vals, .rd 1 imagesA images.length imagesC images] hS527 (by first | omega | (simp only [marked_len]; omega)) (by first | omega | (simp only [marked_len]; omega)) (by first | omega | (simp only [marked_len]; omega))) ?_)
                      rintro _ w522 ⟨rfl, hS525⟩ a523 hE524; clear hE520 hS527
                      refine q_step (v := .int .i64 ((((1 + (fp1.length : Int)) + (gp1.length : Int)) + (images.length : Int)) + (vals.length : Int))) hE524 (y_assign rfl) rfl rfl rfl ?_; intro a528 hE529; clear hE524
                      refine c_nil ?_
                      have hE530 := hE529.sub (L' := [(2, .slice imagesA images.length imagesC), (3, .slice valsA vals.length valsC), (4, .pointer (some ⟨b5, 0, none⟩)), (5, .pointer (some ⟨b11, 0, none⟩)), (10, .slice b160 (((F_s_PullValues fp0 fp1 gp0 gp1 images vals).1).length) c161), (11, .int .i64 ((F_s_PullValues fp0 fp1 gp0 gp1 images vals).2)), (16, .slice b264 (((F_PullValues fp0 fp1 gp0 gp1 images vals).1).length) c265), (17, .int .i64 ((F_PullValues fp0 fp1 gp0 gp1 images vals).2)), (18, .int .i64 ((((1 + (fp1.length : Int)) + (gp1.length : Int)) + (images.length : Int)) + (vals.length : Int)))]) ⟨rfl, rfl, rfl, rfl, rfl, rfl, rfl, rfl, rfl, trivial⟩; clear hE529
                      refine p_tn ?_
                      refine c_seq ?_
                      refine c_cut (fun a' w' => E a' 161 [(2, .slice imagesA images.length imagesC), (3, .slice valsA vals.length valsC), (4, .pointer (some ⟨b5, 0, none⟩)), (5, .pointer (some ⟨b11, 0, none⟩)), (10, .slice b160 (((F_s_PullValues fp0 fp1 gp0 gp1 images vals).1).length) c161), (11, .int .i64 ((F_s_PullValues fp0 fp1 gp0 gp1 images vals).2)), (16, .slice b264 (((F_PullValues fp0 fp1 gp0 gp1 images vals).1).length) c265), (120, .bool ((decide (((((1 + (fp1.length : Int)) + (gp1.length : Int)) + (images.length : Int)) + (vals.length : Int)) < 0)) || ((!(decide (((F_PullValues fp0 fp1 gp0 gp1 images vals).1) = ((F_s_PullValues fp0 fp1 gp0 gp1 images vals).1)))) || (!decide (((F_PullValues fp0 fp1 gp0 gp1 images vals).2) = ((F_s_PullValues fp0 fp1 gp0 gp1 images vals).2))))))] ∧ St w w' [.own 2 1 b244 ((vals).length) c245 (marked vals.length (((1 + (fp1.length : Int)) + (gp1.length : Int)) + (images.length : Int))), .own 2 1 b230 ((images).length) c231 (marked images.length ((1 + (fp1.length : Int)) + (gp1.length : Int))), .own 2 1 b206 ((gp1).length) c207 (marked gp1.length (1 + (fp1.length : Int))), .own 2 1 b182 ((fp1).length) c183 (marked fp1.length 1), .own 2 1 b450 ((vals).length) c451 vals, .own 2 1 b418 ((images).length) c419 images, .own 2 1 b386 ((gp1).length) c387 gp1, .own 2 1 b351 ((fp1).length) c352 fp1, .own 2 1 b264 (((F_PullValues fp0 fp1 gp0 gp1 images vals).1).length) c265 ((F_PullValues fp0 fp1 gp0 gp1 images vals).1), .blk b209 #[.int .i64 gp0, .slice b206 ((gp1).length) c207] 53, .blk b185 #[.int .i64 fp0, .slice b182 ((fp1).length) c183] 53, .own 2 1 b160 (((F_s_PullValues fp0 fp1 gp0 gp1 images vals).1).length) c161 ((F_s_PullValues fp0 fp1 gp0 gp1 images vals).1), .own 2 1 b151 ((vals).length) c152 vals, .own 2 1 b142 ((images).length) c143 images, .own 2 1 b133 ((gp1).length) c134 gp1, .own 2 1 b124 ((fp1).length) c125 fp1, .rd 1 gp1A gp1.length gp1C gp1, .blk b11 #[.int .i64 gp0, .slice gp1A gp1.length gp1C] 51, .rd 1 fp1A fp1.length fp1C fp1, .blk b5 #[.int .i64 fp0, .slice fp1A fp1.length fp1C] 51, .rd 1 valsA vals.length valsC vals, .rd 1 imagesA images.length imagesC images]) ?_ ?_
                      ·
                        refine c_reg ?_
                        refine q_step (v := .int .i64 ((((1 + (fp1.length : Int)) + (gp1.length : Int)) + (images.length : Int)) + (vals.length : Int))) hE530 (y_move rfl) rfl rfl rfl ?_; intro a531 hE532; clear hE530
                        refine q_step (v := .bool (decide (((((1 + (fp1.length : Int)) + (gp1.length : Int)) + (images.length : Int)) + (vals.length : Int)) < 0))) hE532 (y_lss rfl rfl) rfl rfl rfl ?_; intro a533 hE534; clear hE532
                        refine q_step (v := .bool (decide (((((1 + (fp1.length : Int)) + (gp1.length : Int)) + (images.length : Int)) + (vals.length : Int)) < 0))) hE534 (y_move rfl) rfl rfl rfl ?_; intro a535 hE536; clear hE534
                        rcases Bool.eq_false_or_eq_true (decide (((((1 + (fp1.length : Int)) + (gp1.length : Int)) + (images.length : Int)) + (vals.length : Int)) < 0)) with hb537 | hb537
                        ·
                          have hE538 := hE536; rw [hb537] at hE538; clear hE536
                          have hp539 := of_decide_eq_true hb537
                          refine q_skip hE538 rfl rfl rfl ?_; intro a540 hE541; clear hE538
                          refine q_skip hE541 rfl rfl rfl ?_; intro a542 hE543; clear hE541
                          refine q_skip hE543 rfl rfl rfl ?_; intro a544 hE545; clear hE543
                          refine q_skip hE545 rfl rfl rfl ?_; intro a546 hE547; clear hE545
                          refine q_step (v := .bool true) hE547 (y_pick (b := true) rfl rfl) rfl rfl rfl ?_; intro a548 hE549; clear hE547
                          refine q_step (v := .bool true) hE549 (y_move rfl) rfl rfl rfl ?_; intro a550 hE551; clear hE549
                          refine q_skip hE551 rfl rfl rfl ?_; intro a552 hE553; clear hE551
                          refine q_skip hE553 rfl rfl rfl ?_; intro a554 hE555; clear hE553
                          refine q_skip hE555 rfl rfl rfl ?_; intro a556 hE557; clear hE555
                          refine q_step (v := .bool true) hE557 (y_pick (b := true) rfl rfl) rfl rfl rfl ?_; intro a558 hE559; clear hE557
                          refine c_nil ?_
                          have hE560 := hE559.sub (L' := [(2, .slice imagesA images.length imagesC), (3, .slice valsA vals.length valsC), (4, .pointer (some ⟨b5, 0, none⟩)), (5, .pointer (some ⟨b11, 0, none⟩)), (10, .slice b160 (((F_s_PullValues fp0 fp1 gp0 gp1 images vals).1).length) c161), (11, .int .i64 ((F_s_PullValues fp0 fp1 gp0 gp1 images vals).2)), (16, .slice b264 (((F_PullValues fp0 fp1 gp0 gp1 images vals).1).length) c265), (120, .bool true)]) ⟨rfl, rfl, rfl, rfl, rfl, rfl, rfl, rfl, trivial⟩; clear hE559
                          refine p_tn ?_
                          have hE561 := hE560.sub (L' := [(2, .slice imagesA images.length imagesC), (3, .slice valsA vals.length valsC), (4, .pointer (some ⟨b5, 0, none⟩)), (5, .pointer (some ⟨b11, 0, none⟩)), (10, .slice b160 (((F_s_PullValues fp0 fp1 gp0 gp1 images vals).1).length) c161), (11, .int .i64 ((F_s_PullValues fp0 fp1 gp0 gp1 images vals).2)), (16, .slice b264 (((F_PullValues fp0 fp1 gp0 gp1 images vals).1).length) c265), (120, .bool true)]) ⟨rfl, rfl, rfl, rfl, rfl, rfl, rfl, rfl, trivial⟩
                          have hS562 := (St.pick (Γ' := [.own 2 1 b244 ((vals).length) c245 (marked vals.length (((1 + (fp1.length : Int)) + (gp1.length : Int)) + (images.length : Int))), .own 2 1 b230 ((images).length) c231 (marked images.length ((1 + (fp1.length : Int)) + (gp1.length : Int))), .own 2 1 b206 ((gp1).length) c207 (marked gp1.length (1 + (fp1.length : Int))), .own 2 1 b182 ((fp1).length) c183 (marked fp1.length 1), .own 2 1 b450 ((vals).length) c451 vals, .own 2 1 b418 ((images).length) c419 images, .own 2 1 b386 ((gp1).length) c387 gp1, .own 2 1 b351 ((fp1).length) c352 fp1, .own 2 1 b264 (((F_PullValues fp0 fp1 gp0 gp1 images vals).1).length) c265 ((F_PullValues fp0 fp1 gp0 gp1 images vals).1), .blk b209 #[.int .i64 gp0, .slice b206 ((gp1).length) c207] 53, .blk b185 #[.int .i64 fp0, .slice b182 ((fp1).length) c183] 53, .own 2 1 b160 (((F_s_PullValues fp0 fp1 gp0 gp1 images vals).1).length) c161 ((F_s_PullValues fp0 fp1 gp0 gp1 images vals).1), .own 2 1 b151 ((vals).length) c152 vals, .own 2 1 b142 ((images).length) c143 images, .own 2 1 b133 ((gp1).length) c134 gp1, .own 2 1 b124 ((fp1).length) c125 fp1, .rd 1 gp1A gp1.length gp1C gp1, .blk b11 #[.int .i64 gp0, .slice gp1A gp1.length gp1C] 51, .rd 1 fp1A fp1.length fp1C fp1, .blk b5 #[.int .i64 fp0, .slice fp1A fp1.length fp1C] 51, .rd 1 valsA vals.length valsC vals, .rd 1 imagesA images.length imagesC images]) hS525 [0, 1, 2, 3, 4, 5, 6, 7, 8, 9, 10, 11, 12, 13, 14, 15, 16, 17, 18, 19, 20, 21] (by decide) rfl)
                          exact ⟨(by rw [hb537]; exact hE561), hS562⟩
                        ·
                          have hE563 := hE536; rw [hb537] at hE563; clear hE536
                          have hp564 := of_decide_eq_false hb537
                          refine q_step (v := .slice b264 (((F_PullValues fp0 fp1 gp0 gp1 images vals).1).length) c265) hE563 (y_move rfl) rfl rfl rfl ?_; intro a565 hE566; clear hE563
                          refine q_step (v := .slice b160 (((F_s_PullValues fp0 fp1 gp0 gp1 images vals).1).length) c161) hE566 (y_move rfl) rfl rfl rfl ?_; intro a567 hE568; clear hE566
                          refine l_step hE568 rfl (l_call (f := 23) (argv := [.slice b264 (((F_PullValues fp0 fp1 gp0 gp1 images vals).1).length) c265, .slice b160 (((F_s_PullValues fp0 fp1 gp0 gp1 images vals).1).length) c161]) hE568 (fun _ => cf_l_eqInt64S _ _) rfl rfl (d_l_eqInt64S b264 (((F_PullValues fp0 fp1 gp0 gp1 images vals).1).length) c265 ((F_PullValues fp0 fp1 gp0 gp1 images vals).1) b160 (((F_s_PullValues fp0 fp1 gp0 gp1 images vals).1).length) c161 ((F_s_PullValues fp0 fp1 gp0 gp1 images vals).1) w522 (St.rdO (i := 8) hS525 rfl) (St.rdO (i := 11) hS525 rfl)) ?_)
                          rintro _ w570 ⟨rfl, he574⟩ a571 hE572; clear hE568
                          have hS573 := St.go hS525 he574; clear hS525
                          refine q_step (v := .bool (!(decide (((F_PullValues fp0 fp1 gp0 gp1 images vals).1) = ((F_s_PullValues fp0 fp1 gp0 gp1 images vals).1))))) hE572 (y_not rfl) rfl rfl rfl ?_; intro a575 hE576; clear hE572
                          refine q_step (v := .bool (!(decide (((F_PullValues fp0 fp1 gp0 gp1 images vals).1) = ((F_s_PullValues fp0 fp1 gp0 gp1 images vals).1))))) hE576 (y_pick (b := false) rfl rfl) rfl rfl rfl ?_; intro a577 hE578; clear hE576
                          refine q_step (v := .bool (!(decide (((F_PullValues fp0 fp1 gp0 gp1 images vals).1) = ((F_s_PullValues fp0 fp1 gp0 gp1 images vals).1))))) hE578 (y_move rfl) rfl rfl rfl ?_; intro a579 hE580; clear hE578
                          rcases Bool.eq_false_or_eq_true (!(decide (((F_PullValues fp0 fp1 gp0 gp1 images vals).1) = ((F_s_PullValues fp0 fp1 gp0 gp1 images vals).1)))) with hb581 | hb581
                          ·
                            have hE582 := hE580; rw [hb581] at hE582; clear hE580
                            have ht583 := bn_t hb581
                            have hp584 := of_decide_eq_false ht583
                            refine q_skip hE582 rfl rfl rfl ?_; intro a585 hE586; clear hE582
                            refine q_skip hE586 rfl rfl rfl ?_; intro a587 hE588; clear hE586
                            refine q_skip hE588 rfl rfl rfl ?_; intro a589 hE590; clear hE588
                            refine q_step (v := .bool true) hE590 (y_pick (b := true) rfl rfl) rfl rfl rfl ?_; intro a591 hE592; clear hE590
                            refine c_nil ?_
                            have hE593 := hE592.sub (L' := [(2, .slice imagesA images.length imagesC), (3, .slice valsA vals.length valsC), (4, .pointer (some ⟨b5, 0, none⟩)), (5, .pointer (some ⟨b11, 0, none⟩)), (10, .slice b160 (((F_s_PullValues fp0 fp1 gp0 gp1 images vals).1).length) c161), (11, .int .i64 ((F_s_PullValues fp0 fp1 gp0 gp1 images vals).2)), (16, .slice b264 (((F_PullValues fp0 fp1 gp0 gp1 images vals).1).length) c265), (120, .bool true)]) ⟨rfl, rfl, rfl, rfl, rfl, rfl, rfl, rfl, trivial⟩; clear hE592
                            refine p_tn ?_
                            have hE594 := hE593.sub (L' := [(2, .slice imagesA images.length imagesC), (3, .slice valsA vals.length valsC), (4, .pointer (some ⟨b5, 0, none⟩)), (5, .pointer (some ⟨b11, 0, none⟩)), (10, .slice b160 (((F_s_PullValues fp0 fp1 gp0 gp1 images vals).1).length) c161), (11, .int .i64 ((F_s_PullValues fp0 fp1 gp0 gp1 images vals).2)), (16, .slice b264 (((F_PullValues fp0 fp1 gp0 gp1 images vals).1).length) c265), (120, .bool true)]) ⟨rfl, rfl, rfl, rfl, rfl, rfl, rfl, rfl, trivial⟩
                            have hS595 := (St.pick (Γ' := [.own 2 1 b244 ((vals).length) c245 (marked vals.length (((1 + (fp1.length : Int)) + (gp1.length : Int)) + (images.length : Int))), .own 2 1 b230 ((images).length) c231 (marked images.length ((1 + (fp1.length : Int)) + (gp1.length : Int))), .own 2 1 b206 ((gp1).length) c207 (marked gp1.length (1 + (fp1.length : Int))), .own 2 1 b182 ((fp1).length) c183 (marked fp1.length 1), .own 2 1 b450 ((vals).length) c451 vals, .own 2 1 b418 ((images).length) c419 images, .own 2 1 b386 ((gp1).length) c387 gp1, .own 2 1 b351 ((fp1).length) c352 fp1, .own 2 1 b264 (((F_PullValues fp0 fp1 gp0 gp1 images vals).1).length) c265 ((F_PullValues fp0 fp1 gp0 gp1 images vals).1), .blk b209 #[.int .i64 gp0, .slice b206 ((gp1).length) c207] 53, .blk b185 #[.int .i64 fp0, .slice b182 ((fp1).length) c183] 53, .own 2 1 b160 (((F_s_PullValues fp0 fp1 gp0 gp1 images vals).1).length) c161 ((F_s_PullValues fp0 fp1 gp0 gp1 images vals).1), .own 2 1 b151 ((vals).length) c152 vals, .own 2 1 b142 ((images).length) c143 images, .own 2 1 b133 ((gp1).length) c134 gp1, .own 2 1 b124 ((fp1).length) c125 fp1, .rd 1 gp1A gp1.length gp1C gp1, .blk b11 #[.int .i64 gp0, .slice gp1A gp1.length gp1C] 51, .rd 1 fp1A fp1.length fp1C fp1, .blk b5 #[.int .i64 fp0, .slice fp1A fp1.length fp1C] 51, .rd 1 valsA vals.length valsC vals, .rd 1 imagesA images.length imagesC images]) hS573 [0, 1, 2, 3, 4, 5, 6, 7, 8, 9, 10, 11, 12, 13, 14, 15, 16, 17, 18, 19, 20, 21] (by decide) rfl)
                            exact ⟨(by rw [hb581, hb537]; exact hE594), hS595⟩
                          ·
                            have hE596 := hE580; rw [hb581] at hE596; clear hE580
                            have ht597 := bn_f hb581
                            have hp598 := of_decide_eq_true ht597
                            refine q_step (v := .int .i64 ((F_PullValues fp0 fp1 gp0 gp1 images vals).2)) hE596 (y_move rfl) rfl rfl rfl ?_; intro a599 hE600; clear hE596
                            refine q_step (v := .int .i64 ((F_s_PullValues fp0 fp1 gp0 gp1 images vals).2)) hE600 (y_move rfl) rfl rfl rfl ?_; intro a601 hE602; clear hE600
                            refine q_step (v := .bool (!decide (((F_PullValues fp0 fp1 gp0 gp1 images vals).2) = ((F_s_PullValues fp0 fp1 gp0 gp1 images vals).2)))) hE602 (y_neq rfl rfl) rfl rfl rfl ?_; intro a603 hE604; clear hE602
                            refine q_step (v := .bool (!decide (((F_PullValues fp0 fp1 gp0 gp1 images vals).2) = ((F_s_PullValues fp0 fp1 gp0 gp1 images vals).2)))) hE604 (y_pick (b := false) rfl rfl) rfl rfl rfl ?_; intro a605 hE606; clear hE604
                            refine c_nil ?_
                            have hE607 := hE606.sub (L' := [(2, .slice imagesA images.length imagesC), (3, .slice valsA vals.length valsC), (4, .pointer (some ⟨b5, 0, none⟩)), (5, .pointer (some ⟨b11, 0, none⟩)), (10, .slice b160 (((F_s_PullValues fp0 fp1 gp0 gp1 images vals).1).length) c161), (11, .int .i64 ((F_s_PullValues fp0 fp1 gp0 gp1 images vals).2)), (16, .slice b264 (((F_PullValues fp0 fp1 gp0 gp1 images vals).1).length) c265), (120, .bool (!decide (((F_PullValues fp0 fp1 gp0 gp1 images vals).2) = ((F_s_PullValues fp0 fp1 gp0 gp1 images vals).2))))]) ⟨rfl, rfl, rfl, rfl, rfl, rfl, rfl, rfl, trivial⟩; clear hE606
                            refine p_tn ?_
                            have hE608 := hE607.sub (L' := [(2, .slice imagesA images.length imagesC), (3, .slice valsA vals.length valsC), (4, .pointer (some ⟨b5, 0, none⟩)), (5, .pointer (some ⟨b11, 0, none⟩)), (10, .slice b160 (((F_s_PullValues fp0 fp1 gp0 gp1 images vals).1).length) c161), (11, .int .i64 ((F_s_PullValues fp0 fp1 gp0 gp1 images vals).2)), (16, .slice b264 (((F_PullValues fp0 fp1 gp0 gp1 images vals).1).length) c265), (120, .bool (!decide (((F_PullValues fp0 fp1 gp0 gp1 images vals).2) = ((F_s_PullValues fp0 fp1 gp0 gp1 images vals).2))))]) ⟨rfl, rfl, rfl, rfl, rfl, rfl, rfl, rfl, trivial⟩
                            have hS609 := (St.pick (Γ' := [.own 2 1 b244 ((vals).length) c245 (marked vals.length (((1 + (fp1.length : Int)) + (gp1.length : Int)) + (images.length : Int))), .own 2 1 b230 ((images).length) c231 (marked images.length ((1 + (fp1.length : Int)) + (gp1.length : Int))), .own 2 1 b206 ((gp1).length) c207 (marked gp1.length (1 + (fp1.length : Int))), .own 2 1 b182 ((fp1).length) c183 (marked fp1.length 1), .own 2 1 b450 ((vals).length) c451 vals, .own 2 1 b418 ((images).length) c419 images, .own 2 1 b386 ((gp1).length) c387 gp1, .own 2 1 b351 ((fp1).length) c352 fp1, .own 2 1 b264 (((F_PullValues fp0 fp1 gp0 gp1 images vals).1).length) c265 ((F_PullValues fp0 fp1 gp0 gp1 images vals).1), .blk b209 #[.int .i64 gp0, .slice b206 ((gp1).length) c207] 53, .blk b185 #[.int .i64 fp0, .slice b182 ((fp1).length) c183] 53, .own 2 1 b160 (((F_s_PullValues fp0 fp1 gp0 gp1 images vals).1).length) c161 ((F_s_PullValues fp0 fp1 gp0 gp1 images vals).1), .own 2 1 b151 ((vals).length) c152 vals, .own 2 1 b142 ((images).length) c143 images, .own 2 1 b133 ((gp1).length) c134 gp1, .own 2 1 b124 ((fp1).length) c125 fp1, .rd 1 gp1A gp1.length gp1C gp1, .blk b11 #[.int .i64 gp0, .slice gp1A gp1.length gp1C] 51, .rd 1 fp1A fp1.length fp1C fp1, .blk b5 #[.int .i64 fp0, .slice fp1A fp1.length fp1C] 51, .rd 1 valsA vals.length valsC vals, .rd 1 imagesA images.length imagesC images]) hS573 [0, 1, 2, 3, 4, 5, 6, 7, 8, 9, 10, 11, 12, 13, 14, 15, 16, 17, 18, 19, 20, 21] (by decide) rfl)
                            exact ⟨(by rw [hb581, hb537]; exact hE608), hS609⟩
                      ·
                        rintro a610 w611 ⟨hE612, hS613⟩; clear hE530 hS525
                        refine c_cond hE612 rfl (fun ht614 => ?_) (fun ht614 => ?_)
                        ·
                          have hE615 := hE612; rw [ht614] at hE615; clear hE612
                          refine c_seq ?_
                          refine c_reg ?_
                          refine q_step (v := .bool false) hE615 (y_assign rfl) rfl rfl rfl ?_; intro a616 hE617; clear hE615
                          refine c_nil ?_
                          have hE618 := hE617.sub (L' := [(8, .bool false)]) ⟨rfl, trivial⟩; clear hE617
                          refine p_tn ?_
                          refine wp_ret ?_
                          refine p_tr ?_
                          have hF : F_l_FnExactPullValues fp0 fp1 gp0 gp1 images vals = false := by unfold F_l_FnExactPullValues; rw [ht614, ht462, ht430, ht398, ht363, ht326, ht98, ht71, ht42, ht27]; first | done | rfl
                          refine c_ret1 hE618 rfl rfl ?_
                          exact ⟨(by rw [hF]; first | done | rfl), hS613.ext⟩
                        ·
                          obtain ⟨ht619, ht620⟩ := bor_f ht614
                          have hp621 := of_decide_eq_false ht619
                          obtain ⟨ht622, ht623⟩ := bor_f ht620
                          have ht624 := bn_f ht622
                          have hp625 := of_decide_eq_true ht624
                          have ht626 := bn_f ht623
                          have hp627 := of_decide_eq_true ht626
                          have hE628 := hE612; rw [ht614] at hE628; clear hE612
                          refine wp_skip ?_
                          refine p_tn ?_
                          refine c_seq ?_
                          refine c_reg ?_
                          refine q_step (v := .int .i64 1) hE628 (y_assign rfl) rfl rfl rfl ?_; intro a629 hE630; clear hE628
                          refine c_nil ?_
                          have hE631 := hE630.sub (L' := [(2, .slice imagesA images.length imagesC), (3, .slice valsA vals.length valsC), (4, .pointer (some ⟨b5, 0, none⟩)), (5, .pointer (some ⟨b11, 0, none⟩)), (10, .slice b160 (((F_s_PullValues fp0 fp1 gp0 gp1 images vals).1).length) c161), (11, .int .i64 ((F_s_PullValues fp0 fp1 gp0 gp1 images vals).2)), (16, .slice b264 (((F_PullValues fp0 fp1 gp0 gp1 images vals).1).length) c265), (19, .int .i64 1)]) ⟨rfl, rfl, rfl, rfl, rfl, rfl, rfl, rfl, trivial⟩; clear hE630
                          refine p_tn ?_
                          refine c_seq ?_
                          refine c_reg ?_
                          refine q_step (v := .slice b264 (((F_PullValues fp0 fp1 gp0 gp1 images vals).1).length) c265) hE631 (y_move rfl) rfl rfl rfl ?_; intro a632 hE633; clear hE631
                          refine q_step (v := .int .i64 1) hE633 (y_move rfl) rfl rfl rfl ?_; intro a634 hE635; clear hE633
                          have hS642 := (St.pick (Γ' := [.own 2 1 b264 (((F_PullValues fp0 fp1 gp0 gp1 images vals).1).length) c265 ((F_PullValues fp0 fp1 gp0 gp1 images vals).1), .own 2 1 b244 ((vals).length) c245 (marked vals.length (((1 + (fp1.length : Int)) + (gp1.length : Int)) + (images.length : Int))), .own 2 1 b230 ((images).length) c231 (marked images.length ((1 + (fp1.length : Int)) + (gp1.length : Int))), .own 2 1 b206 ((gp1).length) c207 (marked gp1.length (1 + (fp1.length : Int))), .own 2 1 b182 ((fp1).length) c183 (marked fp1.length 1), .own 2 1 b450 ((vals).length) c451 vals, .own 2 1 b418 ((images).length) c419 images, .own 2 1 b386 ((gp1).length) c387 gp1, .own 2 1 b351 ((fp1).length) c352 fp1, .blk b209 #[.int .i64 gp0, .slice b206 ((gp1).length) c207] 53, .blk b185 #[.int .i64 fp0, .slice b182 ((fp1).length) c183] 53, .own 2 1 b160 (((F_s_PullValues fp0 fp1 gp0 gp1 images vals).1).length) c161 ((F_s_PullValues fp0 fp1 gp0 gp1 images vals).1), .own 2 1 b151 ((vals).length) c152 vals, .own 2 1 b142 ((images).length) c143 images, .own 2 1 b133 ((gp1).length) c134 gp1, .own 2 1 b124 ((fp1).length) c125 fp1, .rd 1 gp1A gp1.length gp1C gp1, .blk b11 #[.int .i64 gp0, .slice gp1A gp1.length gp1C] 51, .rd 1 fp1A fp1.length fp1C fp1, .blk b5 #[.int .i64 fp0, .slice fp1A fp1.length fp1C] 51, .rd 1 valsA vals.length valsC vals, .rd 1 imagesA images.length imagesC images]) hS613 [8, 0, 1, 2, 3, 4, 5, 6, 7, 9, 10, 11, 12, 13, 14, 15, 16, 17, 18, 19, 20, 21] (by decide) rfl); clear hS613
                          refine l_step hE635 rfl (l_call (f := 24) (argv := [.slice b264 (((F_PullValues fp0 fp1 gp0 gp1 images vals).1).length) c265, .int .i64 1]) hE635 (fun _ => cf_l_markInt64S _ _) rfl rfl (d_l_markInt64S b264 (((F_PullValues fp0 fp1 gp0 gp1 images vals).1).length) c265 ((F_PullValues fp0 fp1 gp0 gp1 images vals).1) 1 w611 w [.own 2 1 b244 ((vals).length) c245 (marked vals.length (((1 + (fp1.length : Int)) + (gp1.length : Int)) + (images.length : Int))), .own 2 1 b230 ((images).length) c231 (marked images.length ((1 + (fp1.length : Int)) + (gp1.length : Int))), .own 2 1 b206 ((gp1).length) c207 (marked gp1.length (1 + (fp1.length : Int))), .own 2 1 b182 ((fp1).length) c183 (marked fp1.length 1), .own 2 1 b450 ((vals).length) c451 vals, .own 2 1 b418 ((images).length) c419 images, .own 2 1 b386 ((gp1).length) c387 gp1, .own 2 1 b351 ((fp1).length) c352 fp1, .blk b209 #[.int .i64 gp0, .slice b206 ((gp1).length) c207] 53, .blk b185 #[.int .i64 fp0, .slice b182 ((fp1).length) c183] 53, .own 2 1 b160 (((F_s_PullValues fp0 fp1 gp0 gp1 images vals).1).length) c161 ((F_s_PullValues fp0 fp1 gp0 gp1 images vals).1), .own 2 1 b151 ((vals).length) c152 vals, .own 2 1 b142 ((images).length) c143 images, .own 2 1 b133 ((gp1).length) c134 gp1, .own 2 1 b124 ((fp1).length) c125 fp1, .rd 1 gp1A gp1.length gp1C gp1, .blk b11 #[.int .i64 gp0, .slice gp1A gp1.length gp1C] 51, .rd 1 fp1A fp1.length fp1C fp1, .blk b5 #[.int .i64 fp0, .slice fp1A fp1.length fp1C] 51, .rd 1 valsA vals.length valsC vals, .rd 1 imagesA images.length imagesC images] hS642 (by first | omega | (simp only [marked_len]; omega)) (by first | omega | (simp only [marked_len]; omega)) (by first | omega | (simp only [marked_len]; omega))) ?_)
                          rintro _ w637 ⟨rfl, hS640⟩ a638 hE639; clear hE635 hS642
                          refine q_step (v := .int .i64 (1 + (((F_PullValues fp0 fp1 gp0 gp1 images vals).1).length : Int))) hE639 (y_assign rfl) rfl rfl rfl ?_; intro a643 hE644; clear hE639
                          refine c_nil ?_
                          have hE645 := hE644.sub (L' := [(2, .slice imagesA images.length imagesC), (3, .slice valsA vals.length valsC), (4, .pointer (some ⟨b5, 0, none⟩)), (5, .pointer (some ⟨b11, 0, none⟩)), (10, .slice b160 (((F_s_PullValues fp0 fp1 gp0 gp1 images vals).1).length) c161), (11, .int .i64 ((F_s_PullValues fp0 fp1 gp0 gp1 images vals).2)), (16, .slice b264 (((F_PullValues fp0 fp1 gp0 gp1 images vals).1).length) c265), (19, .int .i64 (1 + (((F_PullValues fp0 fp1 gp0 gp1 images vals).1).length : Int)))]) ⟨rfl, rfl, rfl, rfl, rfl, rfl, rfl, rfl, trivial⟩; clear hE644
                          refine p_tn ?_
                          refine c_seq ?_
                          refine c_reg ?_
                          refine q_step (v := .int .i64 1) hE645 (y_assign rfl) rfl rfl rfl ?_; intro a646 hE647; clear hE645
                          refine c_nil ?_
                          have hE648 := hE647.sub (L' := [(2, .slice imagesA images.length imagesC), (3, .slice valsA vals.length valsC), (4, .pointer (some ⟨b5, 0, none⟩)), (5, .pointer (some ⟨b11, 0, none⟩)), (10, .slice b160 (((F_s_PullValues fp0 fp1 gp0 gp1 images vals).1).length) c161), (11, .int .i64 ((F_s_PullValues fp0 fp1 gp0 gp1 images vals).2)), (16, .slice b264 (((F_PullValues fp0 fp1 gp0 gp1 images vals).1).length) c265), (19, .int .i64 (1 + (((F_PullValues fp0 fp1 gp0 gp1 images vals).1).length : Int))), (20, .int .i64 1)]) ⟨rfl, rfl, rfl, rfl, rfl, rfl, rfl, rfl, rfl, trivial⟩; clear hE647
                          refine p_tn ?_
                          refine c_seq ?_
                          refine c_reg ?_
                          refine q_step (v := .slice b264 (((F_PullValues fp0 fp1 gp0 gp1 images vals).1).length) c265) hE648 (y_move rfl) rfl rfl rfl ?_; intro a649 hE650; clear hE648
                          refine q_step (v := .int .i64 1) hE650 (y_move rfl) rfl rfl rfl ?_; intro a651 hE652; clear hE650
                          refine l_step hE652 rfl (l_call (f := 25) (argv := [.slice b264 (((F_PullValues fp0 fp1 gp0 gp1 images vals).1).length) c265, .int .i64 1]) hE652 (fun _ => cf_l_heldInt64S _ _) rfl rfl (c_l_heldInt64S b264 (((F_PullValues fp0 fp1 gp0 gp1 images vals).1).length) c265 (marked ((F_PullValues fp0 fp1 gp0 gp1 images vals).1).length 1) 1 w637 (St.rdO (i := 0) hS640 rfl) (by first | omega | (simp only [marked_len]; omega)) (by first | omega | (simp only [marked_len]; omega)) (by first | omega | (simp only [marked_len]; omega))) ?_)
                          rintro _ w654 ⟨rfl, he658⟩ a655 hE656; clear hE652
                          have hS657 := St.go hS640 he658; clear hS640
                          refine q_step (v := .int .i64 (F_l_heldInt64S (marked ((F_PullValues fp0 fp1 gp0 gp1 images vals).1).length 1) 1)) hE656 (y_assign rfl) rfl rfl rfl ?_; intro a659 hE660; clear hE656
                          refine c_nil ?_
                          have hE661 := hE660.sub (L' := [(2, .slice imagesA images.length imagesC), (3, .slice valsA vals.length valsC), (4, .pointer (some ⟨b5, 0, none⟩)), (5, .pointer (some ⟨b11, 0, none⟩)), (10, .slice b160 (((F_s_PullValues fp0 fp1 gp0 gp1 images vals).1).length) c161), (11, .int .i64 ((F_s_PullValues fp0 fp1 gp0 gp1 images vals).2)), (16, .slice b264 (((F_PullValues fp0 fp1 gp0 gp1 images vals).1).length) c265), (19, .int .i64 (1 + (((F_PullValues fp0 fp1 gp0 gp1 images vals).1).length : Int))), (20, .int .i64 (F_l_heldInt64S (marked ((F_PullValues fp0 fp1 gp0 gp1 images vals).1).length 1) 1))]) ⟨rfl, rfl, rfl, rfl, rfl, rfl, rfl, rfl, rfl, trivial⟩; clear hE660
                          refine p_tn ?_
                          refine c_seq ?_
                          refine c_seq ?_
                          refine c_reg ?_
                          refine q_step (v := .int .i64 (F_l_heldInt64S (marked ((F_PullValues fp0 fp1 gp0 gp1 images vals).1).length 1) 1)) hE661 (y_move rfl) rfl rfl rfl ?_; intro a662 hE663; clear hE661
                          refine q_step (v := .bool (decide ((F_l_heldInt64S (marked ((F_PullValues fp0 fp1 gp0 gp1 images vals).1).length 1) 1) < 0))) hE663 (y_lss rfl rfl) rfl rfl rfl ?_; intro a664 hE665; clear hE663
                          refine c_nil ?_
                          have hE666 := hE665.sub (L' := [(2, .slice imagesA images.length imagesC), (3, .slice valsA vals.length valsC), (4, .pointer (some ⟨b5, 0, none⟩)), (5, .pointer (some ⟨b11, 0, none⟩)), (10, .slice b160 (((F_s_PullValues fp0 fp1 gp0 gp1 images vals).1).length) c161), (11, .int .i64 ((F_s_PullValues fp0 fp1 gp0 gp1 images vals).2)), (16, .slice b264 (((F_PullValues fp0 fp1 gp0 gp1 images vals).1).length) c265), (19, .int .i64 (1 + (((F_PullValues fp0 fp1 gp0 gp1 images vals).1).length : Int))), (20, .int .i64 (F_l_heldInt64S (marked ((F_PullValues fp0 fp1 gp0 gp1 images vals).1).length 1) 1)), (128, .bool (decide ((F_l_heldInt64S (marked ((F_PullValues fp0 fp1 gp0 gp1 images vals).1).length 1) 1) < 0)))]) ⟨rfl, rfl, rfl, rfl, rfl, rfl, rfl, rfl, rfl, rfl, trivial⟩; clear hE665
                          refine p_tn ?_
                          refine c_cond hE666 rfl (fun ht667 => ?_) (fun ht667 => ?_)
                          ·
                            have hp668 := of_decide_eq_true ht667
                            have hE669 := hE666; rw [ht667] at hE669; clear hE666
                            refine c_seq ?_
                            refine c_reg ?_
                            refine q_step (v := .bool false) hE669 (y_assign rfl) rfl rfl rfl ?_; intro a670 hE671; clear hE669
                            refine c_nil ?_
                            have hE672 := hE671.sub (L' := [(8, .bool false)]) ⟨rfl, trivial⟩; clear hE671
                            refine p_tn ?_
                            refine wp_ret ?_
                            refine p_tr ?_
                            have hF : F_l_FnExactPullValues fp0 fp1 gp0 gp1 images vals = false := by unfold F_l_FnExactPullValues; rw [ht667, ht614, ht462, ht430, ht398, ht363, ht326, ht98, ht71, ht42, ht27]; first | done | rfl
                            refine c_ret1 hE672 rfl rfl ?_
                            exact ⟨(by rw [hF]; first | done | rfl), hS657.ext⟩
                          ·
                            have hp673 := of_decide_eq_false ht667
                            have hE674 := hE666; rw [ht667] at hE674; clear hE666
                            refine wp_skip ?_
                            refine p_tn ?_
                            refine c_seq ?_
                            refine c_seq ?_
                            refine c_reg ?_
                            refine q_step (v := .int .i64 (F_l_heldInt64S (marked ((F_PullValues fp0 fp1 gp0 gp1 images vals).1).length 1) 1)) hE674 (y_move rfl) rfl rfl rfl ?_; intro a675 hE676; clear hE674
                            refine q_step (v := .int .i64 (1 + (((F_PullValues fp0 fp1 gp0 gp1 images vals).1).length : Int))) hE676 (y_move rfl) rfl rfl rfl ?_; intro a677 hE678; clear hE676
                            refine q_step (v := .bool (!decide ((F_l_heldInt64S (marked ((F_PullValues fp0 fp1 gp0 gp1 images vals).1).length 1) 1) = (1 + (((F_PullValues fp0 fp1 gp0 gp1 images vals).1).length : Int))))) hE678 (y_neq rfl rfl) rfl rfl rfl ?_; intro a679 hE680; clear hE678
                            refine c_nil ?_
                            have hE681 := hE680.sub (L' := [(2, .slice imagesA images.length imagesC), (3, .slice valsA vals.length valsC), (4, .pointer (some ⟨b5, 0, none⟩)), (5, .pointer (some ⟨b11, 0, none⟩)), (10, .slice b160 (((F_s_PullValues fp0 fp1 gp0 gp1 images vals).1).length) c161), (11, .int .i64 ((F_s_PullValues fp0 fp1 gp0 gp1 images vals).2)), (16, .slice b264 (((F_PullValues fp0 fp1 gp0 gp1 images vals).1).length) c265), (19, .int .i64 (1 + (((F_PullValues fp0 fp1 gp0 gp1 images vals).1).length : Int))), (131, .bool (!decide ((F_l_heldInt64S (marked ((F_PullValues fp0 fp1 gp0 gp1 images vals).1).length 1) 1) = (1 + (((F_PullValues fp0 fp1 gp0 gp1 images vals).1).length : Int)))))]) ⟨rfl, rfl, rfl, rfl, rfl, rfl, rfl, rfl, rfl, trivial⟩; clear hE680
                            refine p_tn ?_
                            refine c_cond hE681 rfl (fun ht682 => ?_) (fun ht682 => ?_)
                            ·
                              have ht683 := bn_t ht682
                              have hp684 := of_decide_eq_false ht683
                              have hE685 := hE681; rw [ht682] at hE685; clear hE681
                              refine c_seq ?_
                              refine c_reg ?_
                              refine q_step (v := .bool false) hE685 (y_assign rfl) rfl rfl rfl ?_; intro a686 hE687; clear hE685
                              refine c_nil ?_
                              have hE688 := hE687.sub (L' := [(8, .bool false)]) ⟨rfl, trivial⟩; clear hE687
                              refine p_tn ?_
                              refine wp_ret ?_
                              refine p_tr ?_
                              have hF : F_l_FnExactPullValues fp0 fp1 gp0 gp1 images vals = false := by unfold F_l_FnExactPullValues; rw [ht682, ht667, ht614, ht462, ht430, ht398, ht363, ht326, ht98, ht71, ht42, ht27]; first | done | rfl
                              refine c_ret1 hE688 rfl rfl ?_
                              exact ⟨(by rw [hF]; first | done | rfl), hS657.ext⟩
                            ·
                              have ht689 := bn_f ht682
                              have hp690 := of_decide_eq_true ht689
                              have hE691 := hE681; rw [ht682] at hE691; clear hE681
                              refine wp_skip ?_
                              refine p_tn ?_
                              refine c_seq ?_
                              refine d_start (fun w' => w'.heap[b5]? = some (.cells #[.int .i64 fp0, .slice fp1A fp1.length fp1C] 51 (0, 0)) ∧ w'.heap[b11]? = some (.cells #[.int .i64 gp0, .slice gp1A gp1.length gp1C] 51 (0, 0)) ∧ True) [0, 2] 14 (by kernel_rfl) rfl ?_
                              intro w692 he693; have hS694 := St.go hS657 he693; clear hS657
                              refine d_take (v := .agg #[.int .i64 fp0, .slice fp1A fp1.length fp1C]) 0 rfl hE691 ⟨(St.row (i := 19) hS694 rfl _ (Ext.refl _)), (St.row (i := 17) hS694 rfl _ (Ext.refl _)), trivial⟩ (y_loadS Try.underlying51 rfl (by kernel_rfl) rfl (fun _ h => h.1)) rfl rfl (by kernel_rfl) (by kernel_rfl) (by kernel_rfl) rfl rfl (fun _ _ _ h => h) ?_; intro a695 hE696; clear hE691
                              refine d_take (v := .agg #[.int .i64 gp0, .slice gp1A gp1.length gp1C]) 2 rfl hE696 ⟨(St.row (i := 19) hS694 rfl _ (Ext.refl _)), (St.row (i := 17) hS694 rfl _ (Ext.refl _)), trivial⟩ (y_loadS Try.underlying51 rfl (by kernel_rfl) rfl (fun _ h => h.2.1)) rfl rfl (by kernel_rfl) (by kernel_rfl) (by kernel_rfl) rfl rfl (fun _ _ _ h => h) ?_; intro a697 hE698; clear hE696
                              refine d_pure (v := .slice imagesA images.length imagesC) 4 rfl hE698 (y_move rfl) rfl (by kernel_rfl) (by kernel_rfl) (by kernel_rfl) rfl rfl (fun _ _ _ h => h) ?_; intro a699 hE700; clear hE698
                              refine d_pure (v := .slice valsA vals.length valsC) 6 rfl hE700 (y_move rfl) rfl (by kernel_rfl) (by kernel_rfl) (by kernel_rfl) rfl rfl (fun _ _ _ h => h) ?_; intro a701 hE702; clear hE700
                              refine d_only 1 (by kernel_rfl) rfl hE702 rfl (l_call (f := 38) (argv := [.agg #[.int .i64 fp0, .slice fp1A fp1.length fp1C]]) hE702 (fun _ => cf_l_toFrame _ _) rfl rfl (d_l_toFrame fp0 fp1A fp1.length fp1C fp1 w692 (St.rdR (i := 18) hS694 rfl) (by first | omega | (simp only [marked_len]; omega))) ?_)
                              rintro _ w704 ⟨b709, c710, rfl, ho711, he708⟩ a705 hE706; clear hE702
                              have hS707 := St.own hS694 he708 ho711; clear hS694
                              refine ⟨fun _ _ => ⟨(St.row (i := 20) hS707 rfl _ (Ext.refl _)), (St.row (i := 18) hS707 rfl _ (Ext.refl _)), trivial⟩, ?_⟩
                              refine d_only 3 (by kernel_rfl) rfl hE706 rfl (l_call (f := 38) (argv := [.agg #[.int .i64 gp0, .slice gp1A gp1.length gp1C]]) hE706 (fun _ => cf_l_toFrame _ _) rfl rfl (d_l_toFrame gp0 gp1A gp1.length gp1C gp1 w704 (St.rdR (i := 17) hS707 rfl) (by first | omega | (simp only [marked_len]; omega))) ?_)
                              rintro _ w713 ⟨b718, c719, rfl, ho720, he717⟩ a714 hE715; clear hE706
                              have hS716 := St.own hS707 he717 ho720; clear hS707
                              refine ⟨fun _ _ => ⟨(St.row (i := 21) hS716 rfl _ (Ext.refl _)), (St.row (i := 19) hS716 rfl _ (Ext.refl _)), trivial⟩, ?_⟩
                              refine d_only 5 (by kernel_rfl) rfl hE715 rfl (l_call (f := 21) (argv := [.slice imagesA images.length imagesC]) hE715 (fun _ => cf_l_toInt64S _ _) rfl rfl (d_l_toInt64S imagesA images.length imagesC images w713 (St.rdR (i := 23) hS716 rfl) (by first | omega | (simp only [marked_len]; omega))) ?_)
                              rintro _ w722 ⟨b727, c728, rfl, ho729, he726⟩ a723 hE724; clear hE715
                              have hS725 := St.own hS716 he726 ho729; clear hS716
                              refine ⟨fun _ _ => ⟨(St.row (i := 22) hS725 rfl _ (Ext.refl _)), (St.row (i := 20) hS725 rfl _ (Ext.refl _)), trivial⟩, ?_⟩
                              refine d_only 7 (by kernel_rfl) rfl hE724 rfl (l_call (f := 21) (argv := [.slice valsA vals.length valsC]) hE724 (fun _ => cf_l_toInt64S _ _) rfl rfl (d_l_toInt64S valsA vals.length valsC vals w722 (St.rdR (i := 23) hS725 rfl) (by first | omega | (simp only [marked_len]; omega))) ?_)
                              rintro _ w731 ⟨b736, c737, rfl, ho738, he735⟩ a732 hE733; clear hE724
                              have hS734 := St.own hS725 he735 ho738; clear hS725
                              refine ⟨fun _ _ => ⟨(St.row (i := 23) hS734 rfl _ (Ext.refl _)), (St.row (i := 21) hS734 rfl _ (Ext.refl _)), trivial⟩, ?_⟩
                              refine d_only 8 (by kernel_rfl) rfl hE733 rfl (l_call (f := 51) (argv := [.agg #[.int .i64 fp0, .slice b709 ((fp1).length) c710], .agg #[.int .i64 gp0, .slice b718 ((gp1).length) c719], .slice b727 ((images).length) c728, .slice b736 ((vals).length) c737]) hE733 (fun _ => cf_PullValues _ _) rfl rfl (c_PullValues fp0 b709 ((fp1).length) c710 fp1 gp0 b718 ((gp1).length) c719 gp1 b727 ((images).length) c728 images b736 ((vals).length) c737 vals w731 (St.rdO (i := 3) hS734 rfl) (St.rdO (i := 2) hS734 rfl) (St.rdO (i := 1) hS734 rfl) (St.rdO (i := 0) hS734 rfl) (by first | omega | (simp only [marked_len]; omega))) ?_)
                              rintro _ w740 ⟨b745, c746, rfl, ho747, he744⟩ a741 hE742; clear hE733
                              have hf748 := PullValues_len fp0 fp1 gp0 gp1 images vals
                              have hS743 := St.own hS734 he744 ho747; clear hS734
                              refine ⟨fun _ _ => ⟨(St.row (i := 24) hS743 rfl _ (Ext.refl _)), (St.row (i := 22) hS743 rfl _ (Ext.refl _)), trivial⟩, ?_⟩
                              refine d_pure (v := .tuple #[.slice b745 (((F_PullValues fp0 fp1 gp0 gp1 images vals).1).length) c746, .int .i64 ((F_PullValues fp0 fp1 gp0 gp1 images vals).2)]) 9 rfl hE742 (y_move rfl) rfl (by kernel_rfl) (by kernel_rfl) (by kernel_rfl) rfl rfl (fun _ _ _ h => h) ?_; intro a749 hE750; clear hE742
                              refine d_pure (v := .slice b745 (((F_PullValues fp0 fp1 gp0 gp1 images vals).1).length) c746) 10 rfl hE750 (y_extract rfl rfl) rfl (by kernel_rfl) (by kernel_rfl) (by kernel_rfl) rfl rfl (fun _ _ _ h => h) ?_; intro a751 hE752; clear hE750
                              refine d_pure (v := .int .i64 ((F_PullValues fp0 fp1 gp0 gp1 images vals).2)) 11 rfl hE752 (y_extract rfl rfl) rfl (by kernel_rfl) (by kernel_rfl) (by kernel_rfl) rfl rfl (fun _ _ _ h => h) ?_; intro a753 hE754; clear hE752
                              refine d_pure (v := .slice b745 (((F_PullValues fp0 fp1 gp0 gp1 images vals).1).length) c746) 12 rfl hE754 (y_assign rfl) rfl (by kernel_rfl) (by kernel_rfl) (by kernel_rfl) rfl rfl (fun _ _ _ h => h) ?_; intro a755 hE756; clear hE754
                              refine d_pure (v := .int .i64 ((F_PullValues fp0 fp1 gp0 gp1 images vals).2)) 13 rfl hE756 (y_assign rfl) rfl (by kernel_rfl) (by kernel_rfl) (by kernel_rfl) rfl rfl (fun _ _ _ h => h) ?_; intro a757 hE758; clear hE756
                              refine d_done (by kernel_rfl) ?_
                              have hE759 := hE758.sub (L' := [(10, .slice b160 (((F_s_PullValues fp0 fp1 gp0 gp1 images vals).1).length) c161), (11, .int .i64 ((F_s_PullValues fp0 fp1 gp0 gp1 images vals).2)), (16, .slice b264 (((F_PullValues fp0 fp1 gp0 gp1 images vals).1).length) c265), (19, .int .i64 (1 + (((F_PullValues fp0 fp1 gp0 gp1 images vals).1).length : Int))), (21, .slice b745 (((F_PullValues fp0 fp1 gp0 gp1 images vals).1).length) c746), (22, .int .i64 ((F_PullValues fp0 fp1 gp0 gp1 images vals).2))]) ⟨rfl, rfl, rfl, rfl, rfl, rfl, trivial⟩; clear hE758
                              refine p_tn ?_
                              refine c_seq ?_
                              refine c_cut (fun a' w' => E a' 161 [(16, .slice b264 (((F_PullValues fp0 fp1 gp0 gp1 images vals).1).length) c265), (19, .int .i64 (1 + (((F_PullValues fp0 fp1 gp0 gp1 images vals).1).length : Int))), (152, .bool ((!(decide (((F_PullValues fp0 fp1 gp0 gp1 images vals).1) = ((F_s_PullValues fp0 fp1 gp0 gp1 images vals).1)))) || (!decide (((F_PullValues fp0 fp1 gp0 gp1 images vals).2) = ((F_s_PullValues fp0 fp1 gp0 gp1 images vals).2)))))] ∧ St w w' [.own 2 1 b745 (((F_PullValues fp0 fp1 gp0 gp1 images vals).1).length) c746 ((F_PullValues fp0 fp1 gp0 gp1 images vals).1), .own 2 1 b736 ((vals).length) c737 vals, .own 2 1 b727 ((images).length) c728 images, .own 2 1 b718 ((gp1).length) c719 gp1, .own 2 1 b709 ((fp1).length) c710 fp1, .own 2 1 b264 (((F_PullValues fp0 fp1 gp0 gp1 images vals).1).length) c265 (marked ((F_PullValues fp0 fp1 gp0 gp1 images vals).1).length 1), .own 2 1 b244 ((vals).length) c245 (marked vals.length (((1 + (fp1.length : Int)) + (gp1.length : Int)) + (images.length : Int))), .own 2 1 b230 ((images).length) c231 (marked images.length ((1 + (fp1.length : Int)) + (gp1.length : Int))), .own 2 1 b206 ((gp1).length) c207 (marked gp1.length (1 + (fp1.length : Int))), .own 2 1 b182 ((fp1).length) c183 (marked fp1.length 1), .own 2 1 b450 ((vals).length) c451 vals, .own 2 1 b418 ((images).length) c419 images, .own 2 1 b386 ((gp1).length) c387 gp1, .own 2 1 b351 ((fp1).length) c352 fp1, .blk b209 #[.int .i64 gp0, .slice b206 ((gp1).length) c207] 53, .blk b185 #[.int .i64 fp0, .slice b182 ((fp1).length) c183] 53, .own 2 1 b160 (((F_s_PullValues fp0 fp1 gp0 gp1 images vals).1).length) c161 ((F_s_PullValues fp0 fp1 gp0 gp1 images vals).1), .own 2 1 b151 ((vals).length) c152 vals, .own 2 1 b142 ((images).length) c143 images, .own 2 1 b133 ((gp1).length) c134 gp1, .own 2 1 b124 ((fp1).length) c125 fp1, .rd 1 gp1A gp1.length gp1C gp1, .blk b11 #[.int .i64 gp0, .slice gp1A gp1.length gp1C] 51, .rd 1 fp1A fp1.length fp1C fp1, .blk b5 #[.int .i64 fp0, .slice fp1A fp1.length fp1C] 51, .rd 1 valsA vals.length valsC vals, .rd 1 imagesA images.length imagesC images]) ?_ ?_
                              ·
                                refine c_reg ?_
                                refine q_step (v := .slice b745 (((F_PullValues fp0 fp1 gp0 gp1 images vals).1).length) c746) hE759 (y_move rfl) rfl rfl rfl ?_; intro a760 hE761; clear hE759
                                refine q_step (v := .slice b160 (((F_s_PullValues fp0 fp1 gp0 gp1 images vals).1).length) c161) hE761 (y_move rfl) rfl rfl rfl ?_; intro a762 hE763; clear hE761
                                refine l_step hE763 rfl (l_call (f := 23) (argv := [.slice b745 (((F_PullValues fp0 fp1 gp0 gp1 images vals).1).length) c746, .slice b160 (((F_s_PullValues fp0 fp1 gp0 gp1 images vals).1).length) c161]) hE763 (fun _ => cf_l_eqInt64S _ _) rfl rfl (d_l_eqInt64S b745 (((F_PullValues fp0 fp1 gp0 gp1 images vals).1).length) c746 ((F_PullValues fp0 fp1 gp0 gp1 images vals).1) b160 (((F_s_PullValues fp0 fp1 gp0 gp1 images vals).1).length) c161 ((F_s_PullValues fp0 fp1 gp0 gp1 images vals).1) w740 (St.rdO (i := 0) hS743 rfl) (St.rdO (i := 16) hS743 rfl)) ?_)
                                rintro _ w765 ⟨rfl, he769⟩ a766 hE767; clear hE763
                                have hS768 := St.go hS743 he769; clear hS743
                                refine q_step (v := .bool (!(decide (((F_PullValues fp0 fp1 gp0 gp1 images vals).1) = ((F_s_PullValues fp0 fp1 gp0 gp1 images vals).1))))) hE767 (y_not rfl) rfl rfl rfl ?_; intro a770 hE771; clear hE767
                                refine q_step (v := .bool (!(decide (((F_PullValues fp0 fp1 gp0 gp1 images vals).1) = ((F_s_PullValues fp0 fp1 gp0 gp1 images vals).1))))) hE771 (y_move rfl) rfl rfl rfl ?_; intro a772 hE773; clear hE771
                                rcases Bool.eq_false_or_eq_true (!(decide (((F_PullValues fp0 fp1 gp0 gp1 images vals).1) = ((F_s_PullValues fp0 fp1 gp0 gp1 images vals).1)))) with hb774 | hb774
                                ·
                                  have hE775 := hE773; rw [hb774] at hE775; clear hE773
                                  have ht776 := bn_t hb774
                                  have hp777 := of_decide_eq_false ht776
                                  refine q_skip hE775 rfl rfl rfl ?_; intro a778 hE779; clear hE775
                                  refine q_skip hE779 rfl rfl rfl ?_; intro a780 hE781; clear hE779
                                  refine q_skip hE781 rfl rfl rfl ?_; intro a782 hE783; clear hE781
                                  refine q_step (v := .bool true) hE783 (y_pick (b := true) rfl rfl) rfl rfl rfl ?_; intro a784 hE785; clear hE783
                                  refine c_nil ?_
                                  have hE786 := hE785.sub (L' := [(16, .slice b264 (((F_PullValues fp0 fp1 gp0 gp1 images vals).1).length) c265), (19, .int .i64 (1 + (((F_PullValues fp0 fp1 gp0 gp1 images vals).1).length : Int))), (152, .bool true)]) ⟨rfl, rfl, rfl, trivial⟩; clear hE785
                                  refine p_tn ?_
                                  have hE787 := hE786.sub (L' := [(16, .slice b264 (((F_PullValues fp0 fp1 gp0 gp1 images vals).1).length) c265), (19, .int .i64 (1 + (((F_PullValues fp0 fp1 gp0 gp1 images vals).1).length : Int))), (152, .bool true)]) ⟨rfl, rfl, rfl, trivial⟩
                                  have hS788 := (St.pick (Γ' := [.own 2 1 b745 (((F_PullValues fp0 fp1 gp0 gp1 images vals).1).length) c746 ((F_PullValues fp0 fp1 gp0 gp1 images vals).1), .own 2 1 b736 ((vals).length) c737 vals, .own 2 1 b727 ((images).length) c728 images, .own 2 1 b718 ((gp1).length) c719 gp1, .own 2 1 b709 ((fp1).length) c710 fp1, .own 2 1 b264 (((F_PullValues fp0 fp1 gp0 gp1 images vals).1).length) c265 (marked ((F_PullValues fp0 fp1 gp0 gp1 images vals).1).length 1), .own 2 1 b244 ((vals).length) c245 (marked vals.length (((1 + (fp1.length : Int)) + (gp1.length : Int)) + (images.length : Int))), .own 2 1 b230 ((images).length) c231 (marked images.length ((1 + (fp1.length : Int)) + (gp1.length : Int))), .own 2 1 b206 ((gp1).length) c207 (marked gp1.length (1 + (fp1.length : Int))), .own 2 1 b182 ((fp1).length) c183 (marked fp1.length 1), .own 2 1 b450 ((vals).length) c451 vals, .own 2 1 b418 ((images).length) c419 images, .own 2 1 b386 ((gp1).length) c387 gp1, .own 2 1 b351 ((fp1).length) c352 fp1, .blk b209 #[.int .i64 gp0, .slice b206 ((gp1).length) c207] 53, .blk b185 #[.int .i64 fp0, .slice b182 ((fp1).length) c183] 53, .own 2 1 b160 (((F_s_PullValues fp0 fp1 gp0 gp1 images vals).1).length) c161 ((F_s_PullValues fp0 fp1 gp0 gp1 images vals).1), .own 2 1 b151 ((vals).length) c152 vals, .own 2 1 b142 ((images).length) c143 images, .own 2 1 b133 ((gp1).length) c134 gp1, .own 2 1 b124 ((fp1).length) c125 fp1, .rd 1 gp1A gp1.length gp1C gp1, .blk b11 #[.int .i64 gp0, .slice gp1A gp1.length gp1C] 51, .rd 1 fp1A fp1.length fp1C fp1, .blk b5 #[.int .i64 fp0, .slice fp1A fp1.length fp1C] 51, .rd 1 valsA vals.length valsC vals, .rd 1 imagesA images.length imagesC images]) hS768 [0, 1, 2, 3, 4, 5, 6, 7, 8, 9, 10, 11, 12, 13, 14, 15, 16, 17, 18, 19, 20, 21, 22, 23, 24, 25, 26] (by decide) rfl)
                                  exact ⟨(by rw [hb774]; exact hE787), hS788⟩
                                ·
                                  have hE789 := hE773; rw [hb774] at hE789; clear hE773
                                  have ht790 := bn_f hb774
                                  have hp791 := of_decide_eq_true ht790
                                  refine q_step (v := .int .i64 ((F_PullValues fp0 fp1 gp0 gp1 images vals).2)) hE789 (y_move rfl) rfl rfl rfl ?_; intro a792 hE793; clear hE789
                                  refine q_step (v := .int .i64 ((F_s_PullValues fp0 fp1 gp0 gp1 images vals).2)) hE793 (y_move rfl) rfl rfl rfl ?_; intro a794 hE795; clear hE793
                                  refine q_step (v := .bool (!decide (((F_PullValues fp0 fp1 gp0 gp1 images vals).2) = ((F_s_PullValues fp0 fp1 gp0 gp1 images vals).2)))) hE795 (y_neq rfl rfl) rfl rfl rfl ?_; intro a796 hE797; clear hE795
                                  refine q_step (v := .bool (!decide (((F_PullValues fp0 fp1 gp0 gp1 images vals).2) = ((F_s_PullValues fp0 fp1 gp0 gp1 images vals).2)))) hE797 (y_pick (b := false) rfl rfl) rfl rfl rfl ?_; intro a798 hE799; clear hE797
                                  refine c_nil ?_
                                  have hE800 := hE799.sub (L' := [(16, .slice b264 (((F_PullValues fp0 fp1 gp0 gp1 images vals).1).length) c265), (19, .int .i64 (1 + (((F_PullValues fp0 fp1 gp0 gp1 images vals).1).length : Int))), (152, .bool (!decide (((F_PullValues fp0 fp1 gp0 gp1 images vals).2) = ((F_s_PullValues fp0 fp1 gp0 gp1 images vals).2))))]) ⟨rfl, rfl, rfl, trivial⟩; clear hE799
                                  refine p_tn ?_
                                  have hE801 := hE800.sub (L' := [(16, .slice b264 (((F_PullValues fp0 fp1 gp0 gp1 images vals).1).length) c265), (19, .int .i64 (1 + (((F_PullValues fp0 fp1 gp0 gp1 images vals).1).length : Int))), (152, .bool (!decide (((F_PullValues fp0 fp1 gp0 gp1 images vals).2) = ((F_s_PullValues fp0 fp1 gp0 gp1 images vals).2))))]) ⟨rfl, rfl, rfl, trivial⟩
                                  have hS802 := (St.pick (Γ' := [.own 2 1 b745 (((F_PullValues fp0 fp1 gp0 gp1 images vals).1).length) c746 ((F_PullValues fp0 fp1 gp0 gp1 images vals).1), .own 2 1 b736 ((vals).length) c737 vals, .own 2 1 b727 ((images).length) c728 images, .own 2 1 b718 ((gp1).length) c719 gp1, .own 2 1 b709 ((fp1).length) c710 fp1, .own 2 1 b264 (((F_PullValues fp0 fp1 gp0 gp1 images vals).1).length) c265 (marked ((F_PullValues fp0 fp1 gp0 gp1 images vals).1).length 1), .own 2 1 b244 ((vals).length) c245 (marked vals.length (((1 + (fp1.length : Int)) + (gp1.length : Int)) + (images.length : Int))), .own 2 1 b230 ((images).length) c231 (marked images.length ((1 + (fp1.length : Int)) + (gp1.length : Int))), .own 2 1 b206 ((gp1).length) c207 (marked gp1.length (1 + (fp1.length : Int))), .own 2 1 b182 ((fp1).length) c183 (marked fp1.length 1), .own 2 1 b450 ((vals).length) c451 vals, .own 2 1 b418 ((images).length) c419 images, .own 2 1 b386 ((gp1).length) c387 gp1, .own 2 1 b351 ((fp1).length) c352 fp1, .blk b209 #[.int .i64 gp0, .slice b206 ((gp1).length) c207] 53, .blk b185 #[.int .i64 fp0, .slice b182 ((fp1).length) c183] 53, .own 2 1 b160 (((F_s_PullValues fp0 fp1 gp0 gp1 images vals).1).length) c161 ((F_s_PullValues fp0 fp1 gp0 gp1 images vals).1), .own 2 1 b151 ((vals).length) c152 vals, .own 2 1 b142 ((images).length) c143 images, .own 2 1 b133 ((gp1).length) c134 gp1, .own 2 1 b124 ((fp1).length) c125 fp1, .rd 1 gp1A gp1.length gp1C gp1, .blk b11 #[.int .i64 gp0, .slice gp1A gp1.length gp1C] 51, .rd 1 fp1A fp1.length fp1C fp1, .blk b5 #[.int .i64 fp0, .slice fp1A fp1.length fp1C] 51, .rd 1 valsA vals.length valsC vals, .rd 1 imagesA images.length imagesC images]) hS768 [0, 1, 2, 3, 4, 5, 6, 7, 8, 9, 10, 11, 12, 13, 14, 15, 16, 17, 18, 19, 20, 21, 22, 23, 24, 25, 26] (by decide) rfl)
                                  exact ⟨(by rw [hb774]; exact hE801), hS802⟩
                              ·
                                rintro a803 w804 ⟨hE805, hS806⟩; clear hE759 hS743
                                have hE807 := hE805; rw [ht326] at hE807; clear hE805
                                refine c_false hE807 rfl ?_
                                refine wp_skip ?_
                                refine p_tn ?_
                                refine c_seq ?_
                                refine c_reg ?_
                                refine q_step (v := .int .i64 1) hE807 (y_assign rfl) rfl rfl rfl ?_; intro a808 hE809; clear hE807
                                refine c_nil ?_
                                have hE810 := hE809.sub (L' := [(16, .slice b264 (((F_PullValues fp0 fp1 gp0 gp1 images vals).1).length) c265), (19, .int .i64 (1 + (((F_PullValues fp0 fp1 gp0 gp1 images vals).1).length : Int))), (20, .int .i64 1)]) ⟨rfl, rfl, rfl, trivial⟩; clear hE809
                                refine p_tn ?_
                                refine c_seq ?_
                                refine c_reg ?_
                                refine q_step (v := .slice b264 (((F_PullValues fp0 fp1 gp0 gp1 images vals).1).length) c265) hE810 (y_move rfl) rfl rfl rfl ?_; intro a811 hE812; clear hE810
                                refine q_step (v := .int .i64 1) hE812 (y_move rfl) rfl rfl rfl ?_; intro a813 hE814; clear hE812
                                refine l_step hE814 rfl (l_call (f := 25) (argv := [.slice b264 (((F_PullValues fp0 fp1 gp0 gp1 images vals).1).length) c265, .int .i64 1]) hE814 (fun _ => cf_l_heldInt64S _ _) rfl rfl (c_l_heldInt64S b264 (((F_PullValues fp0 fp1 gp0 gp1 images vals).1).length) c265 (marked ((F_PullValues fp0 fp1 gp0 gp1 images vals).1).length 1) 1 w804 (St.rdO (i := 5) hS806 rfl) (by first | omega | (simp only [marked_len]; omega)) (by first | omega | (simp only [marked_len]; omega)) (by first | omega | (simp only [marked_len]; omega))) ?_)
                                rintro _ w816 ⟨rfl, he820⟩ a817 hE818; clear hE814
                                have hS819 := St.go hS806 he820; clear hS806
                                refine q_step (v := .int .i64 (F_l_heldInt64S (marked ((F_PullValues fp0 fp1 gp0 gp1 images vals).1).length 1) 1)) hE818 (y_assign rfl) rfl rfl rfl ?_; intro a821 hE822; clear hE818
                                refine c_nil ?_
                                have hE823 := hE822.sub (L' := [(19, .int .i64 (1 + (((F_PullValues fp0 fp1 gp0 gp1 images vals).1).length : Int))), (20, .int .i64 (F_l_heldInt64S (marked ((F_PullValues fp0 fp1 gp0 gp1 images vals).1).length 1) 1))]) ⟨rfl, rfl, trivial⟩; clear hE822
                                refine p_tn ?_
                                refine c_seq ?_
                                refine c_seq ?_
                                refine c_reg ?_
                                refine q_step (v := .int .i64 (F_l_heldInt64S (marked ((F_PullValues fp0 fp1 gp0 gp1 images vals).1).length 1) 1)) hE823 (y_move rfl) rfl rfl rfl ?_; intro a824 hE825; clear hE823
                                refine q_step (v := .bool (decide ((F_l_heldInt64S (marked ((F_PullValues fp0 fp1 gp0 gp1 images vals).1).length 1) 1) < 0))) hE825 (y_lss rfl rfl) rfl rfl rfl ?_; intro a826 hE827; clear hE825
                                refine c_nil ?_
                                have hE828 := hE827.sub (L' := [(19, .int .i64 (1 + (((F_PullValues fp0 fp1 gp0 gp1 images vals).1).length : Int))), (20, .int .i64 (F_l_heldInt64S (marked ((F_PullValues fp0 fp1 gp0 gp1 images vals).1).length 1) 1)), (157, .bool (decide ((F_l_heldInt64S (marked ((F_PullValues fp0 fp1 gp0 gp1 images vals).1).length 1) 1) < 0)))]) ⟨rfl, rfl, rfl, trivial⟩; clear hE827
                                refine p_tn ?_
                                have hE829 := hE828; rw [ht667] at hE829; clear hE828
                                refine c_false hE829 rfl ?_
                                refine wp_skip ?_
                                refine p_tn ?_
                                refine c_seq ?_
                                refine c_seq ?_
                                refine c_reg ?_
                                refine q_step (v := .int .i64 (F_l_heldInt64S (marked ((F_PullValues fp0 fp1 gp0 gp1 images vals).1).length 1) 1)) hE829 (y_move rfl) rfl rfl rfl ?_; intro a830 hE831; clear hE829
                                refine q_step (v := .int .i64 (1 + (((F_PullValues fp0 fp1 gp0 gp1 images vals).1).length : Int))) hE831 (y_move rfl) rfl rfl rfl ?_; intro a832 hE833; clear hE831
                                refine q_step (v := .bool (!decide ((F_l_heldInt64S (marked ((F_PullValues fp0 fp1 gp0 gp1 images vals).1).length 1) 1) = (1 + (((F_PullValues fp0 fp1 gp0 gp1 images vals).1).length : Int))))) hE833 (y_neq rfl rfl) rfl rfl rfl ?_; intro a834 hE835; clear hE833
                                refine c_nil ?_
                                have hE836 := hE835.sub (L' := [(160, .bool (!decide ((F_l_heldInt64S (marked ((F_PullValues fp0 fp1 gp0 gp1 images vals).1).length 1) 1) = (1 + (((F_PullValues fp0 fp1 gp0 gp1 images vals).1).length : Int)))))]) ⟨rfl, trivial⟩; clear hE835
                                refine p_tn ?_
                                have hE837 := hE836; rw [ht682] at hE837; clear hE836
                                refine c_false hE837 rfl ?_
                                refine wp_skip ?_
                                refine p_tn ?_
                                refine c_seq ?_
                                refine c_reg ?_
                                refine q_step (v := .bool true) hE837 (y_assign rfl) rfl rfl rfl ?_; intro a838 hE839; clear hE837
                                refine c_nil ?_
                                have hE840 := hE839.sub (L' := [(8, .bool true)]) ⟨rfl, trivial⟩; clear hE839
                                refine p_tn ?_
                                refine wp_ret ?_
                                have hF : F_l_FnExactPullValues fp0 fp1 gp0 gp1 images vals = true := by unfold F_l_FnExactPullValues; rw [ht682, ht667, ht614, ht462, ht430, ht398, ht363, ht326, ht98, ht71, ht42, ht27]; first | done | rfl
                                refine c_ret1 hE840 rfl rfl ?_
                                exact ⟨(by rw [hF]; first | done | rfl), hS819.ext⟩

theorem FnExactPullValues_true (fp0 : Int) (fp1 : List Int) (gp0 : Int) (gp1 : List Int) (images vals : List Int) : F_l_FnExactPullValues fp0 fp1 gp0 gp1 images vals = true := by
  unfold F_l_FnExactPullValues
  rw [PullValues_eq, heldI_eq]
  have h1 : decide (1 + (fp1.length : Int) + (gp1.length : Int) + (images.length : Int) + (vals.length : Int) < 0) = false := decide_eq_false (by omega)
  have h2 : decide ((1 : Int) + ((F_s_PullValues fp0 fp1 gp0 gp1 images vals).1.length : Int) < 0) = false := decide_eq_false (by omega)
  simp [h1, h2]

end Go.Proofs.Ytfilpikakdlgbaa
