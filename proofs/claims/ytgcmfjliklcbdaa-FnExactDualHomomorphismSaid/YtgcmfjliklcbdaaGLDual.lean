/- GLDual: models and contracts, printed by wip/gen/gen.py -/
import Derived.Test.YtgcmfjliklcbdaaGA
import Derived.Test.YtgcmfjliklcbdaaGM
set_option linter.unusedVariables false
set_option linter.unusedSimpArgs false
namespace Go.Proofs.Ytgcmfjliklcbdaa
open Go.RowKit

def F_l_FnExactDualHomomorphism (fp0 : Int) (fp1 : List Int) (gp0 : Int) (gp1 : List Int) (images : List Int) : Bool :=
  bif (decide (1048576 < (images.length : Int))) then true else (bif (decide ((F_l_szFrame fp0 fp1 1048576) < 0)) then true else (bif (decide ((F_l_szFrame gp0 gp1 (F_l_szFrame fp0 fp1 1048576)) < 0)) then true else (bif ((!(decide (((F_DualHomomorphism fp0 fp1 gp0 gp1 images).1) = ((F_s_DualHomomorphism fp0 fp1 gp0 gp1 images).1)))) || (!decide (((F_DualHomomorphism fp0 fp1 gp0 gp1 images).2) = ((F_s_DualHomomorphism fp0 fp1 gp0 gp1 images).2)))) then false else (bif (!(decide ((fp0, fp1) = (fp0, fp1)))) then false else (bif (!(decide ((gp0, gp1) = (gp0, gp1)))) then false else (bif (!(decide (images = images))) then false else (bif ((decide ((((1 + (fp1.length : Int)) + (gp1.length : Int)) + (images.length : Int)) < 0)) || ((!(decide (((F_DualHomomorphism fp0 fp1 gp0 gp1 images).1) = ((F_s_DualHomomorphism fp0 fp1 gp0 gp1 images).1)))) || (!decide (((F_DualHomomorphism fp0 fp1 gp0 gp1 images).2) = ((F_s_DualHomomorphism fp0 fp1 gp0 gp1 images).2))))) then false else (bif (decide ((F_l_heldInt64S (marked ((F_DualHomomorphism fp0 fp1 gp0 gp1 images).1).length 1) 1) < 0)) then false else (bif (!decide ((F_l_heldInt64S (marked ((F_DualHomomorphism fp0 fp1 gp0 gp1 images).1).length 1) 1) = (1 + (((F_DualHomomorphism fp0 fp1 gp0 gp1 images).1).length : Int)))) then false else true)))))))))
theorem cf_l_FnExactDualHomomorphism (args : Array Value) (w : World) : (callFunc 6 args).run Try.prog w = .ok (.enter 6 args) w := by kernel_rfl
set_option maxRecDepth 100000 in
theorem c_l_FnExactDualHomomorphism (fp0 : Int) (fp1A : Option Addr) (fp1N fp1C : Nat) (fp1 : List Int) (gp0 : Int) (gp1A : Option Addr) (gp1N gp1C : Nat) (gp1 : List Int) (imagesA : Option Addr) (imagesN imagesC : Nat) (images : List Int) (w : World) (fp1R : RdS w 1 fp1A fp1N fp1C fp1) (gp1R : RdS w 1 gp1A gp1N gp1C gp1) (imagesR : RdS w 1 imagesA imagesN imagesC images) :
    Calls Try.prog 6 #[.agg #[.int .i64 fp0, .slice fp1A fp1N fp1C], .agg #[.int .i64 gp0, .slice gp1A gp1N gp1C], .slice imagesA imagesN imagesC] w (Ret fun v w' => v = .bool (F_l_FnExactDualHomomorphism fp0 fp1 gp0 gp1 images) ∧ Ext w w') := by
  obtain rfl : fp1N = fp1.length := fp1R.len1.symm
  have fp1Le := fp1R.le
  obtain rfl : gp1N = gp1.length := gp1R.len1.symm
  have gp1Le := gp1R.le
  obtain rfl : imagesN = images.length := imagesR.len1.symm
  have imagesLe := imagesR.le
  have hS := St.nil w
  have hS1 := St.rd0 hS rfl fp1R; clear hS
  have hS2 := St.rd0 hS1 rfl gp1R; clear hS1
  have hS3 := St.rd0 hS2 rfl imagesR; clear hS2
  refine enter (args := [.agg #[.int .i64 fp0, .slice fp1A fp1.length fp1C], .agg #[.int .i64 gp0, .slice gp1A gp1.length gp1C], .slice imagesA images.length imagesC]) Try.func6 rfl rfl ?_
  rw [Try.ntmps6]; intro a hE
  have hE := hE.sub (L' := [(0, .agg #[.int .i64 fp0, .slice fp1A fp1.length fp1C]), (1, .agg #[.int .i64 gp0, .slice gp1A gp1.length gp1C]), (2, .slice imagesA images.length imagesC)]) ⟨rfl, rfl, rfl, trivial⟩
  refine c_seq ?_
  refine c_reg ?_
  refine l_step hE rfl (l_box (v := .agg #[.int .i64 fp0, .slice fp1A fp1.length fp1C]) (cs := #[.int .i64 fp0, .slice fp1A fp1.length fp1C]) hS3 hE rfl rfl rfl ?_)
  intro b4 w5 hS8 he9 a6 hE7; clear hS3 hE
  refine l_step hE7 rfl (l_box (v := .agg #[.int .i64 gp0, .slice gp1A gp1.length gp1C]) (cs := #[.int .i64 gp0, .slice gp1A gp1.length gp1C]) hS8 hE7 rfl rfl rfl ?_)
  intro b10 w11 hS14 he15 a12 hE13; clear hS8 hE7
  refine q_step (v := .bool false) hE13 (y_assign rfl) rfl rfl rfl ?_; intro a16 hE17; clear hE13
  refine c_nil ?_
  have hE18 := hE17.sub (L' := [(2, .slice imagesA images.length imagesC), (3, .pointer (some ⟨b4, 0, none⟩)), (4, .pointer (some ⟨b10, 0, none⟩))]) ⟨rfl, rfl, rfl, trivial⟩; clear hE17
  refine p_tn ?_
  refine c_seq ?_
  refine c_seq ?_
  refine c_reg ?_
  refine q_step (v := .slice imagesA images.length imagesC) hE18 (y_move rfl) rfl rfl rfl ?_; intro a19 hE20; clear hE18
  refine q_step (v := .int .i64 (images.length : Int)) hE20 (y_len (e := 2) (by kernel_rfl) rfl) rfl rfl rfl ?_; intro a21 hE22; clear hE20
  refine q_step (v := .bool (decide (1048576 < (images.length : Int)))) hE22 (y_gtr rfl rfl) rfl rfl rfl ?_; intro a23 hE24; clear hE22
  refine c_nil ?_
  have hE25 := hE24.sub (L' := [(2, .slice imagesA images.length imagesC), (3, .pointer (some ⟨b4, 0, none⟩)), (4, .pointer (some ⟨b10, 0, none⟩)), (22, .bool (decide (1048576 < (images.length : Int))))]) ⟨rfl, rfl, rfl, rfl, trivial⟩; clear hE24
  refine p_tn ?_
  refine c_cond hE25 rfl (fun ht26 => ?_) (fun ht26 => ?_)
  ·
    have hp27 := of_decide_eq_true ht26
    have hE28 := hE25; rw [ht26] at hE28; clear hE25
    refine c_seq ?_
    refine c_reg ?_
    refine q_step (v := .bool true) hE28 (y_assign rfl) rfl rfl rfl ?_; intro a29 hE30; clear hE28
    refine c_nil ?_
    have hE31 := hE30.sub (L' := [(6, .bool true)]) ⟨rfl, trivial⟩; clear hE30
    refine p_tn ?_
    refine wp_ret ?_
    refine p_tr ?_
    have hF : F_l_FnExactDualHomomorphism fp0 fp1 gp0 gp1 images = true := by unfold F_l_FnExactDualHomomorphism; rw [ht26]; first | done | rfl
    refine c_ret1 hE31 rfl rfl ?_
    exact ⟨(by rw [hF]; first | done | rfl), hS14.ext⟩
  ·
    have hp32 := of_decide_eq_false ht26
    have hE33 := hE25; rw [ht26] at hE33; clear hE25
    refine wp_skip ?_
    refine p_tn ?_
    refine c_seq ?_
    refine c_reg ?_
    refine q_step (v := .int .i64 1048576) hE33 (y_assign rfl) rfl rfl rfl ?_; intro a34 hE35; clear hE33
    refine c_nil ?_
    have hE36 := hE35.sub (L' := [(2, .slice imagesA images.length imagesC), (3, .pointer (some ⟨b4, 0, none⟩)), (4, .pointer (some ⟨b10, 0, none⟩)), (7, .int .i64 1048576)]) ⟨rfl, rfl, rfl, rfl, trivial⟩; clear hE35
    refine p_tn ?_
    refine c_seq ?_
    refine c_reg ?_
    refine q_step (v := .agg #[.int .i64 fp0, .slice fp1A fp1.length fp1C]) hE36 (y_loadS Try.underlying24 rfl (by kernel_rfl) rfl (St.row (i := 1) hS14 rfl)) rfl rfl rfl ?_; intro a37 hE38; clear hE36
    refine q_step (v := .int .i64 1048576) hE38 (y_move rfl) rfl rfl rfl ?_; intro a39 hE40; clear hE38
    refine l_step hE40 rfl (l_call (f := 15) (argv := [.agg #[.int .i64 fp0, .slice fp1A fp1.length fp1C], .int .i64 1048576]) hE40 (fun _ => cf_l_szFrame _ _) rfl rfl (c_l_szFrame fp0 fp1A fp1.length fp1C fp1 1048576 w11 (St.rdR (i := 4) hS14 rfl) (by first | omega | (simp only [marked_len]; omega)) (by first | omega | (simp only [marked_len]; omega))) ?_)
    rintro _ w42 ⟨rfl, he46⟩ a43 hE44; clear hE40
    have hS45 := St.go hS14 he46; clear hS14
    refine q_step (v := .int .i64 (F_l_szFrame fp0 fp1 1048576)) hE44 (y_assign rfl) rfl rfl rfl ?_; intro a47 hE48; clear hE44
    refine c_nil ?_
    have hE49 := hE48.sub (L' := [(2, .slice imagesA images.length imagesC), (3, .pointer (some ⟨b4, 0, none⟩)), (4, .pointer (some ⟨b10, 0, none⟩)), (7, .int .i64 (F_l_szFrame fp0 fp1 1048576))]) ⟨rfl, rfl, rfl, rfl, trivial⟩; clear hE48
    refine p_tn ?_
    refine c_seq ?_
    refine c_seq ?_
    refine c_reg ?_
    refine q_step (v := .int .i64 (F_l_szFrame fp0 fp1 1048576)) hE49 (y_move rfl) rfl rfl rfl ?_; intro a50 hE51; clear hE49
    refine q_step (v := .bool (decide ((F_l_szFrame fp0 fp1 1048576) < 0))) hE51 (y_lss rfl rfl) rfl rfl rfl ?_; intro a52 hE53; clear hE51
    refine c_nil ?_
    have hE54 := hE53.sub (L' := [(2, .slice imagesA images.length imagesC), (3, .pointer (some ⟨b4, 0, none⟩)), (4, .pointer (some ⟨b10, 0, none⟩)), (7, .int .i64 (F_l_szFrame fp0 fp1 1048576)), (27, .bool (decide ((F_l_szFrame fp0 fp1 1048576) < 0)))]) ⟨rfl, rfl, rfl, rfl, rfl, trivial⟩; clear hE53
    refine p_tn ?_
    refine c_cond hE54 rfl (fun ht55 => ?_) (fun ht55 => ?_)
    ·
      have hp56 := of_decide_eq_true ht55
      have hE57 := hE54; rw [ht55] at hE57; clear hE54
      refine c_seq ?_
      refine c_reg ?_
      refine q_step (v := .bool true) hE57 (y_assign rfl) rfl rfl rfl ?_; intro a58 hE59; clear hE57
      refine c_nil ?_
      have hE60 := hE59.sub (L' := [(6, .bool true)]) ⟨rfl, trivial⟩; clear hE59
      refine p_tn ?_
      refine wp_ret ?_
      refine p_tr ?_
      have hF : F_l_FnExactDualHomomorphism fp0 fp1 gp0 gp1 images = true := by unfold F_l_FnExactDualHomomorphism; rw [ht55, ht26]; first | done | rfl
      refine c_ret1 hE60 rfl rfl ?_
      exact ⟨(by rw [hF]; first | done | rfl), hS45.ext⟩
    ·
      have hp61 := of_decide_eq_false ht55
      have hq62 := szFrame_bound hp61
      have hE63 := hE54; rw [ht55] at hE63; clear hE54
      refine wp_skip ?_
      refine p_tn ?_
      refine c_seq ?_
      refine c_reg ?_
      refine q_step (v := .agg #[.int .i64 gp0, .slice gp1A gp1.length gp1C]) hE63 (y_loadS Try.underlying24 rfl (by kernel_rfl) rfl (St.row (i := 0) hS45 rfl)) rfl rfl rfl ?_; intro a64 hE65; clear hE63
      refine q_step (v := .int .i64 (F_l_szFrame fp0 fp1 1048576)) hE65 (y_move rfl) rfl rfl rfl ?_; intro a66 hE67; clear hE65
      refine l_step hE67 rfl (l_call (f := 15) (argv := [.agg #[.int .i64 gp0, .slice gp1A gp1.length gp1C], .int .i64 (F_l_szFrame fp0 fp1 1048576)]) hE67 (fun _ => cf_l_szFrame _ _) rfl rfl (c_l_szFrame gp0 gp1A gp1.length gp1C gp1 (F_l_szFrame fp0 fp1 1048576) w42 (St.rdR (i := 3) hS45 rfl) (by first | omega | (simp only [marked_len]; omega)) (by first | omega | (simp only [marked_len]; omega))) ?_)
      rintro _ w69 ⟨rfl, he73⟩ a70 hE71; clear hE67
      have hS72 := St.go hS45 he73; clear hS45
      refine q_step (v := .int .i64 (F_l_szFrame gp0 gp1 (F_l_szFrame fp0 fp1 1048576))) hE71 (y_assign rfl) rfl rfl rfl ?_; intro a74 hE75; clear hE71
      refine c_nil ?_
      have hE76 := hE75.sub (L' := [(2, .slice imagesA images.length imagesC), (3, .pointer (some ⟨b4, 0, none⟩)), (4, .pointer (some ⟨b10, 0, none⟩)), (7, .int .i64 (F_l_szFrame gp0 gp1 (F_l_szFrame fp0 fp1 1048576)))]) ⟨rfl, rfl, rfl, rfl, trivial⟩; clear hE75
      refine p_tn ?_
      refine c_seq ?_
      refine c_seq ?_
      refine c_reg ?_
      refine q_step (v := .int .i64 (F_l_szFrame gp0 gp1 (F_l_szFrame fp0 fp1 1048576))) hE76 (y_move rfl) rfl rfl rfl ?_; intro a77 hE78; clear hE76
      refine q_step (v := .bool (decide ((F_l_szFrame gp0 gp1 (F_l_szFrame fp0 fp1 1048576)) < 0))) hE78 (y_lss rfl rfl) rfl rfl rfl ?_; intro a79 hE80; clear hE78
      refine c_nil ?_
      have hE81 := hE80.sub (L' := [(2, .slice imagesA images.length imagesC), (3, .pointer (some ⟨b4, 0, none⟩)), (4, .pointer (some ⟨b10, 0, none⟩)), (32, .bool (decide ((F_l_szFrame gp0 gp1 (F_l_szFrame fp0 fp1 1048576)) < 0)))]) ⟨rfl, rfl, rfl, rfl, trivial⟩; clear hE80
      refine p_tn ?_
      refine c_cond hE81 rfl (fun ht82 => ?_) (fun ht82 => ?_)
      ·
        have hp83 := of_decide_eq_true ht82
        have hE84 := hE81; rw [ht82] at hE84; clear hE81
        refine c_seq ?_
        refine c_reg ?_
        refine q_step (v := .bool true) hE84 (y_assign rfl) rfl rfl rfl ?_; intro a85 hE86; clear hE84
        refine c_nil ?_
        have hE87 := hE86.sub (L' := [(6, .bool true)]) ⟨rfl, trivial⟩; clear hE86
        refine p_tn ?_
        refine wp_ret ?_
        refine p_tr ?_
        have hF : F_l_FnExactDualHomomorphism fp0 fp1 gp0 gp1 images = true := by unfold F_l_FnExactDualHomomorphism; rw [ht82, ht55, ht26]; first | done | rfl
        refine c_ret1 hE87 rfl rfl ?_
        exact ⟨(by rw [hF]; first | done | rfl), hS72.ext⟩
      ·
        have hp88 := of_decide_eq_false ht82
        have hq89 := szFrame_bound hp88
        have hE90 := hE81; rw [ht82] at hE90; clear hE81
        refine wp_skip ?_
        refine p_tn ?_
        refine c_seq ?_
        refine d_start (fun w' => w'.heap[b4]? = some (.cells #[.int .i64 fp0, .slice fp1A fp1.length fp1C] 24 (0, 0)) ∧ w'.heap[b10]? = some (.cells #[.int .i64 gp0, .slice gp1A gp1.length gp1C] 24 (0, 0)) ∧ True) [0, 2] 12 (by kernel_rfl) rfl ?_
        intro w91 he92; have hS93 := St.go hS72 he92; clear hS72
        refine d_take (v := .agg #[.int .i64 fp0, .slice fp1A fp1.length fp1C]) 0 rfl hE90 ⟨(St.row (i := 1) hS93 rfl _ (Ext.refl _)), (St.row (i := 0) hS93 rfl _ (Ext.refl _)), trivial⟩ (y_loadS Try.underlying24 rfl (by kernel_rfl) rfl (fun _ h => h.1)) rfl rfl (by kernel_rfl) (by kernel_rfl) (by kernel_rfl) rfl rfl (fun _ _ _ h => h) ?_; intro a94 hE95; clear hE90
        refine d_take (v := .agg #[.int .i64 gp0, .slice gp1A gp1.length gp1C]) 2 rfl hE95 ⟨(St.row (i := 1) hS93 rfl _ (Ext.refl _)), (St.row (i := 0) hS93 rfl _ (Ext.refl _)), trivial⟩ (y_loadS Try.underlying24 rfl (by kernel_rfl) rfl (fun _ h => h.2.1)) rfl rfl (by kernel_rfl) (by kernel_rfl) (by kernel_rfl) rfl rfl (fun _ _ _ h => h) ?_; intro a96 hE97; clear hE95
        refine d_pure (v := .slice imagesA images.length imagesC) 4 rfl hE97 (y_move rfl) rfl (by kernel_rfl) (by kernel_rfl) (by kernel_rfl) rfl rfl (fun _ _ _ h => h) ?_; intro a98 hE99; clear hE97
        refine d_only 1 (by kernel_rfl) rfl hE99 rfl (l_call (f := 17) (argv := [.agg #[.int .i64 fp0, .slice fp1A fp1.length fp1C]]) hE99 (fun _ => cf_l_toFrame _ _) rfl rfl (d_l_toFrame fp0 fp1A fp1.length fp1C fp1 w91 (St.rdR (i := 4) hS93 rfl) (by first | omega | (simp only [marked_len]; omega))) ?_)
        rintro _ w101 ⟨b106, c107, rfl, ho108, he105⟩ a102 hE103; clear hE99
        have hS104 := St.own hS93 he105 ho108; clear hS93
        refine ⟨fun _ _ => ⟨(St.row (i := 2) hS104 rfl _ (Ext.refl _)), (St.row (i := 1) hS104 rfl _ (Ext.refl _)), trivial⟩, ?_⟩
        refine d_only 3 (by kernel_rfl) rfl hE103 rfl (l_call (f := 17) (argv := [.agg #[.int .i64 gp0, .slice gp1A gp1.length gp1C]]) hE103 (fun _ => cf_l_toFrame _ _) rfl rfl (d_l_toFrame gp0 gp1A gp1.length gp1C gp1 w101 (St.rdR (i := 4) hS104 rfl) (by first | omega | (simp only [marked_len]; omega))) ?_)
        rintro _ w110 ⟨b115, c116, rfl, ho117, he114⟩ a111 hE112; clear hE103
        have hS113 := St.own hS104 he114 ho117; clear hS104
        refine ⟨fun _ _ => ⟨(St.row (i := 3) hS113 rfl _ (Ext.refl _)), (St.row (i := 2) hS113 rfl _ (Ext.refl _)), trivial⟩, ?_⟩
        refine d_only 5 (by kernel_rfl) rfl hE112 rfl (l_call (f := 23) (argv := [.slice imagesA images.length imagesC]) hE112 (fun _ => cf_l_toInt64S _ _) rfl rfl (d_l_toInt64S imagesA images.length imagesC images w110 (St.rdR (i := 4) hS113 rfl) (by first | omega | (simp only [marked_len]; omega))) ?_)
        rintro _ w119 ⟨b124, c125, rfl, ho126, he123⟩ a120 hE121; clear hE112
        have hS122 := St.own hS113 he123 ho126; clear hS113
        refine ⟨fun _ _ => ⟨(St.row (i := 4) hS122 rfl _ (Ext.refl _)), (St.row (i := 3) hS122 rfl _ (Ext.refl _)), trivial⟩, ?_⟩
        refine d_only 6 (by kernel_rfl) rfl hE121 rfl (l_call (f := 30) (argv := [.agg #[.int .i64 fp0, .slice b106 ((fp1).length) c107], .agg #[.int .i64 gp0, .slice b115 ((gp1).length) c116], .slice b124 ((images).length) c125]) hE121 (fun _ => cf_s_DualHomomorphism _ _) rfl rfl (c_s_DualHomomorphism fp0 b106 ((fp1).length) c107 fp1 gp0 b115 ((gp1).length) c116 gp1 b124 ((images).length) c125 images w119 (St.rdO (i := 2) hS122 rfl) (St.rdO (i := 1) hS122 rfl) (St.rdO (i := 0) hS122 rfl)) ?_)
        rintro _ w128 ⟨b133, c134, rfl, ho135, he132⟩ a129 hE130; clear hE121
        have hS131 := St.own hS122 he132 ho135; clear hS122
        refine ⟨fun _ _ => ⟨(St.row (i := 5) hS131 rfl _ (Ext.refl _)), (St.row (i := 4) hS131 rfl _ (Ext.refl _)), trivial⟩, ?_⟩
        refine d_pure (v := .tuple #[.slice b133 (((F_s_DualHomomorphism fp0 fp1 gp0 gp1 images).1).length) c134, .int .i64 ((F_s_DualHomomorphism fp0 fp1 gp0 gp1 images).2)]) 7 rfl hE130 (y_move rfl) rfl (by kernel_rfl) (by kernel_rfl) (by kernel_rfl) rfl rfl (fun _ _ _ h => h) ?_; intro a136 hE137; clear hE130
        refine d_pure (v := .slice b133 (((F_s_DualHomomorphism fp0 fp1 gp0 gp1 images).1).length) c134) 8 rfl hE137 (y_extract rfl rfl) rfl (by kernel_rfl) (by kernel_rfl) (by kernel_rfl) rfl rfl (fun _ _ _ h => h) ?_; intro a138 hE139; clear hE137
        refine d_pure (v := .int .i64 ((F_s_DualHomomorphism fp0 fp1 gp0 gp1 images).2)) 9 rfl hE139 (y_extract rfl rfl) rfl (by kernel_rfl) (by kernel_rfl) (by kernel_rfl) rfl rfl (fun _ _ _ h => h) ?_; intro a140 hE141; clear hE139
        refine d_pure (v := .slice b133 (((F_s_DualHomomorphism fp0 fp1 gp0 gp1 images).1).length) c134) 10 rfl hE141 (y_assign rfl) rfl (by kernel_rfl) (by kernel_rfl) (by kernel_rfl) rfl rfl (fun _ _ _ h => h) ?_; intro a142 hE143; clear hE141
        refine d_pure (v := .int .i64 ((F_s_DualHomomorphism fp0 fp1 gp0 gp1 images).2)) 11 rfl hE143 (y_assign rfl) rfl (by kernel_rfl) (by kernel_rfl) (by kernel_rfl) rfl rfl (fun _ _ _ h => h) ?_; intro a144 hE145; clear hE143
        refine d_done (by kernel_rfl) ?_
        have hE146 := hE145.sub (L' := [(2, .slice imagesA images.length imagesC), (3, .pointer (some ⟨b4, 0, none⟩)), (4, .pointer (some ⟨b10, 0, none⟩)), (8, .slice b133 (((F_s_DualHomomorphism fp0 fp1 gp0 gp1 images).1).length) c134), (9, .int .i64 ((F_s_DualHomomorphism fp0 fp1 gp0 gp1 images).2))]) ⟨rfl, rfl, rfl, rfl, rfl, trivial⟩; clear hE145
        refine p_tn ?_
        refine c_seq ?_
        refine c_reg ?_
        refine q_step (v := .agg #[.int .i64 fp0, .slice fp1A fp1.length fp1C]) hE146 (y_loadS Try.underlying24 rfl (by kernel_rfl) rfl (St.row (i := 5) hS131 rfl)) rfl rfl rfl ?_; intro a147 hE148; clear hE146
        refine l_step hE148 rfl (l_call (f := 17) (argv := [.agg #[.int .i64 fp0, .slice fp1A fp1.length fp1C]]) hE148 (fun _ => cf_l_toFrame _ _) rfl rfl (d_l_toFrame fp0 fp1A fp1.length fp1C fp1 w128 (St.rdR (i := 8) hS131 rfl) (by first | omega | (simp only [marked_len]; omega))) ?_)
        rintro _ w150 ⟨b155, c156, rfl, ho157, he154⟩ a151 hE152; clear hE148
        have hS153 := St.own hS131 he154 ho157; clear hS131
        refine l_step hE152 rfl (l_alloc (z := .agg #[.int .i64 0, .slice none 0 0]) (cs := #[.int .i64 0, .slice none 0 0]) hS153 hE152 (fun _ => by kernel_rfl) rfl rfl ?_)
        intro b158 w159 hS162 he163 a160 hE161; clear hS153 hE152
        refine l_step hE161 rfl (l_storeS (k := 0) (cs' := #[.int .i64 fp0, .slice b155 ((fp1).length) c156]) hS162 hE161 (by kernel_rfl) rfl rfl (by kernel_rfl) rfl rfl ?_)
        intro w165 hS168 a166 hE167; clear hS162 hE161
        refine c_nil ?_
        have hE170 := hE167.sub (L' := [(2, .slice imagesA images.length imagesC), (3, .pointer (some ⟨b4, 0, none⟩)), (4, .pointer (some ⟨b10, 0, none⟩)), (8, .slice b133 (((F_s_DualHomomorphism fp0 fp1 gp0 gp1 images).1).length) c134), (9, .int .i64 ((F_s_DualHomomorphism fp0 fp1 gp0 gp1 images).2)), (10, .pointer (some ⟨b158, 0, none⟩))]) ⟨rfl, rfl, rfl, rfl, rfl, rfl, trivial⟩; clear hE167
        refine p_tn ?_
        refine c_seq ?_
        refine c_reg ?_
        refine q_step (v := .agg #[.int .i64 gp0, .slice gp1A gp1.length gp1C]) hE170 (y_loadS Try.underlying24 rfl (by kernel_rfl) rfl (St.row (i := 6) hS168 rfl)) rfl rfl rfl ?_; intro a171 hE172; clear hE170
        refine l_step hE172 rfl (l_call (f := 17) (argv := [.agg #[.int .i64 gp0, .slice gp1A gp1.length gp1C]]) hE172 (fun _ => cf_l_toFrame _ _) rfl rfl (d_l_toFrame gp0 gp1A gp1.length gp1C gp1 w165 (St.rdR (i := 9) hS168 rfl) (by first | omega | (simp only [marked_len]; omega))) ?_)
        rintro _ w174 ⟨b179, c180, rfl, ho181, he178⟩ a175 hE176; clear hE172
        have hS177 := St.own hS168 he178 ho181; clear hS168
        refine l_step hE176 rfl (l_alloc (z := .agg #[.int .i64 0, .slice none 0 0]) (cs := #[.int .i64 0, .slice none 0 0]) hS177 hE176 (fun _ => by kernel_rfl) rfl rfl ?_)
        intro b182 w183 hS186 he187 a184 hE185; clear hS177 hE176
        refine l_step hE185 rfl (l_storeS (k := 0) (cs' := #[.int .i64 gp0, .slice b179 ((gp1).length) c180]) hS186 hE185 (by kernel_rfl) rfl rfl (by kernel_rfl) rfl rfl ?_)
        intro w189 hS192 a190 hE191; clear hS186 hE185
        refine c_nil ?_
        have hE194 := hE191.sub (L' := [(2, .slice imagesA images.length imagesC), (3, .pointer (some ⟨b4, 0, none⟩)), (4, .pointer (some ⟨b10, 0, none⟩)), (8, .slice b133 (((F_s_DualHomomorphism fp0 fp1 gp0 gp1 images).1).length) c134), (9, .int .i64 ((F_s_DualHomomorphism fp0 fp1 gp0 gp1 images).2)), (10, .pointer (some ⟨b158, 0, none⟩)), (11, .pointer (some ⟨b182, 0, none⟩))]) ⟨rfl, rfl, rfl, rfl, rfl, rfl, rfl, trivial⟩; clear hE191
        refine p_tn ?_
        refine c_seq ?_
        refine c_reg ?_
        refine q_step (v := .slice imagesA images.length imagesC) hE194 (y_move rfl) rfl rfl rfl ?_; intro a195 hE196; clear hE194
        refine l_step hE196 rfl (l_call (f := 23) (argv := [.slice imagesA images.length imagesC]) hE196 (fun _ => cf_l_toInt64S _ _) rfl rfl (d_l_toInt64S imagesA images.length imagesC images w189 (St.rdR (i := 10) hS192 rfl) (by first | omega | (simp only [marked_len]; omega))) ?_)
        rintro _ w198 ⟨b203, c204, rfl, ho205, he202⟩ a199 hE200; clear hE196
        have hS201 := St.own hS192 he202 ho205; clear hS192
        refine q_step (v := .slice b203 ((images).length) c204) hE200 (y_assign rfl) rfl rfl rfl ?_; intro a206 hE207; clear hE200
        refine c_nil ?_
        have hE208 := hE207.sub (L' := [(2, .slice imagesA images.length imagesC), (3, .pointer (some ⟨b4, 0, none⟩)), (4, .pointer (some ⟨b10, 0, none⟩)), (8, .slice b133 (((F_s_DualHomomorphism fp0 fp1 gp0 gp1 images).1).length) c134), (9, .int .i64 ((F_s_DualHomomorphism fp0 fp1 gp0 gp1 images).2)), (10, .pointer (some ⟨b158, 0, none⟩)), (11, .pointer (some ⟨b182, 0, none⟩)), (12, .slice b203 ((images).length) c204)]) ⟨rfl, rfl, rfl, rfl, rfl, rfl, rfl, rfl, trivial⟩; clear hE207
        refine p_tn ?_
        refine c_seq ?_
        refine c_reg ?_
        refine q_step (v := .agg #[.int .i64 fp0, .slice b155 ((fp1).length) c156]) hE208 (y_loadS Try.underlying26 rfl (by kernel_rfl) rfl (St.row (i := 3) hS201 rfl)) rfl rfl rfl ?_; intro a209 hE210; clear hE208
        refine q_step (v := .agg #[.int .i64 gp0, .slice b179 ((gp1).length) c180]) hE210 (y_loadS Try.underlying26 rfl (by kernel_rfl) rfl (St.row (i := 1) hS201 rfl)) rfl rfl rfl ?_; intro a211 hE212; clear hE210
        refine q_step (v := .slice b203 ((images).length) c204) hE212 (y_move rfl) rfl rfl rfl ?_; intro a213 hE214; clear hE212
        refine l_step hE214 rfl (l_call (f := 31) (argv := [.agg #[.int .i64 fp0, .slice b155 ((fp1).length) c156], .agg #[.int .i64 gp0, .slice b179 ((gp1).length) c180], .slice b203 ((images).length) c204]) hE214 (fun _ => cf_DualHomomorphism _ _) rfl rfl (c_DualHomomorphism fp0 b155 ((fp1).length) c156 fp1 gp0 b179 ((gp1).length) c180 gp1 b203 ((images).length) c204 images w198 (St.rdO (i := 4) hS201 rfl) (St.rdO (i := 2) hS201 rfl) (St.rdO (i := 0) hS201 rfl)) ?_)
        rintro _ w216 ⟨b221, c222, rfl, ho223, he220⟩ a217 hE218; clear hE214
        have hf224 := DualHomomorphism_len fp0 fp1 gp0 gp1 images
        have hS219 := St.own hS201 he220 ho223; clear hS201
        refine q_step (v := .tuple #[.slice b221 (((F_DualHomomorphism fp0 fp1 gp0 gp1 images).1).length) c222, .int .i64 ((F_DualHomomorphism fp0 fp1 gp0 gp1 images).2)]) hE218 (y_move rfl) rfl rfl rfl ?_; intro a225 hE226; clear hE218
        refine q_step (v := .slice b221 (((F_DualHomomorphism fp0 fp1 gp0 gp1 images).1).length) c222) hE226 (y_extract rfl rfl) rfl rfl rfl ?_; intro a227 hE228; clear hE226
        refine q_step (v := .int .i64 ((F_DualHomomorphism fp0 fp1 gp0 gp1 images).2)) hE228 (y_extract rfl rfl) rfl rfl rfl ?_; intro a229 hE230; clear hE228
        refine q_step (v := .slice b221 (((F_DualHomomorphism fp0 fp1 gp0 gp1 images).1).length) c222) hE230 (y_assign rfl) rfl rfl rfl ?_; intro a231 hE232; clear hE230
        refine q_step (v := .int .i64 ((F_DualHomomorphism fp0 fp1 gp0 gp1 images).2)) hE232 (y_assign rfl) rfl rfl rfl ?_; intro a233 hE234; clear hE232
        refine c_nil ?_
        have hE235 := hE234.sub (L' := [(2, .slice imagesA images.length imagesC), (3, .pointer (some ⟨b4, 0, none⟩)), (4, .pointer (some ⟨b10, 0, none⟩)), (8, .slice b133 (((F_s_DualHomomorphism fp0 fp1 gp0 gp1 images).1).length) c134), (9, .int .i64 ((F_s_DualHomomorphism fp0 fp1 gp0 gp1 images).2)), (10, .pointer (some ⟨b158, 0, none⟩)), (11, .pointer (some ⟨b182, 0, none⟩)), (12, .slice b203 ((images).length) c204), (13, .slice b221 (((F_DualHomomorphism fp0 fp1 gp0 gp1 images).1).length) c222), (14, .int .i64 ((F_DualHomomorphism fp0 fp1 gp0 gp1 images).2))]) ⟨rfl, rfl, rfl, rfl, rfl, rfl, rfl, rfl, rfl, rfl, trivial⟩; clear hE234
        refine p_tn ?_
        refine c_seq ?_
        refine c_cut (fun a' w' => E a' 140 [(2, .slice imagesA images.length imagesC), (3, .pointer (some ⟨b4, 0, none⟩)), (4, .pointer (some ⟨b10, 0, none⟩)), (8, .slice b133 (((F_s_DualHomomorphism fp0 fp1 gp0 gp1 images).1).length) c134), (9, .int .i64 ((F_s_DualHomomorphism fp0 fp1 gp0 gp1 images).2)), (10, .pointer (some ⟨b158, 0, none⟩)), (11, .pointer (some ⟨b182, 0, none⟩)), (12, .slice b203 ((images).length) c204), (13, .slice b221 (((F_DualHomomorphism fp0 fp1 gp0 gp1 images).1).length) c222), (14, .int .i64 ((F_DualHomomorphism fp0 fp1 gp0 gp1 images).2)), (64, .bool ((!(decide (((F_DualHomomorphism fp0 fp1 gp0 gp1 images).1) = ((F_s_DualHomomorphism fp0 fp1 gp0 gp1 images).1)))) || (!decide (((F_DualHomomorphism fp0 fp1 gp0 gp1 images).2) = ((F_s_DualHomomorphism fp0 fp1 gp0 gp1 images).2)))))] ∧ St w w' [.own 2 1 b221 (((F_DualHomomorphism fp0 fp1 gp0 gp1 images).1).length) c222 ((F_DualHomomorphism fp0 fp1 gp0 gp1 images).1), .own 2 1 b203 ((images).length) c204 images, .own 2 1 b179 ((gp1).length) c180 gp1, .blk b182 #[.int .i64 gp0, .slice b179 ((gp1).length) c180] 26, .own 2 1 b155 ((fp1).length) c156 fp1, .blk b158 #[.int .i64 fp0, .slice b155 ((fp1).length) c156] 26, .own 2 1 b133 (((F_s_DualHomomorphism fp0 fp1 gp0 gp1 images).1).length) c134 ((F_s_DualHomomorphism fp0 fp1 gp0 gp1 images).1), .own 2 1 b124 ((images).length) c125 images, .own 2 1 b115 ((gp1).length) c116 gp1, .own 2 1 b106 ((fp1).length) c107 fp1, .rd 1 gp1A gp1.length gp1C gp1, .blk b10 #[.int .i64 gp0, .slice gp1A gp1.length gp1C] 24, .rd 1 fp1A fp1.length fp1C fp1, .blk b4 #[.int .i64 fp0, .slice fp1A fp1.length fp1C] 24, .rd 1 imagesA images.length imagesC images]) ?_ ?_
        ·
          refine c_reg ?_
          refine q_step (v := .slice b221 (((F_DualHomomorphism fp0 fp1 gp0 gp1 images).1).length) c222) hE235 (y_move rfl) rfl rfl rfl ?_; intro a236 hE237; clear hE235
          refine q_step (v := .slice b133 (((F_s_DualHomomorphism fp0 fp1 gp0 gp1 images).1).length) c134) hE237 (y_move rfl) rfl rfl rfl ?_; intro a238 hE239; clear hE237
          refine l_step hE239 rfl (l_call (f := 25) (argv := [.slice b221 (((F_DualHomomorphism fp0 fp1 gp0 gp1 images).1).length) c222, .slice b133 (((F_s_DualHomomorphism fp0 fp1 gp0 gp1 images).1).length) c134]) hE239 (fun _ => cf_l_eqInt64S _ _) rfl rfl (d_l_eqInt64S b221 (((F_DualHomomorphism fp0 fp1 gp0 gp1 images).1).length) c222 ((F_DualHomomorphism fp0 fp1 gp0 gp1 images).1) b133 (((F_s_DualHomomorphism fp0 fp1 gp0 gp1 images).1).length) c134 ((F_s_DualHomomorphism fp0 fp1 gp0 gp1 images).1) w216 (St.rdO (i := 0) hS219 rfl) (St.rdO (i := 6) hS219 rfl)) ?_)
          rintro _ w241 ⟨rfl, he245⟩ a242 hE243; clear hE239
          have hS244 := St.go hS219 he245; clear hS219
          refine q_step (v := .bool (!(decide (((F_DualHomomorphism fp0 fp1 gp0 gp1 images).1) = ((F_s_DualHomomorphism fp0 fp1 gp0 gp1 images).1))))) hE243 (y_not rfl) rfl rfl rfl ?_; intro a246 hE247; clear hE243
          refine q_step (v := .bool (!(decide (((F_DualHomomorphism fp0 fp1 gp0 gp1 images).1) = ((F_s_DualHomomorphism fp0 fp1 gp0 gp1 images).1))))) hE247 (y_move rfl) rfl rfl rfl ?_; intro a248 hE249; clear hE247
          rcases Bool.eq_false_or_eq_true (!(decide (((F_DualHomomorphism fp0 fp1 gp0 gp1 images).1) = ((F_s_DualHomomorphism fp0 fp1 gp0 gp1 images).1)))) with hb250 | hb250
          ·
            have hE251 := hE249; rw [hb250] at hE251; clear hE249
            have ht252 := bn_t hb250
            have hp253 := of_decide_eq_false ht252
            refine q_skip hE251 rfl rfl rfl ?_; intro a254 hE255; clear hE251
            refine q_skip hE255 rfl rfl rfl ?_; intro a256 hE257; clear hE255
            refine q_skip hE257 rfl rfl rfl ?_; intro a258 hE259; clear hE257
            refine q_step (v := .bool true) hE259 (y_pick (b := true) rfl rfl) rfl rfl rfl ?_; intro a260 hE261; clear hE259
            refine c_nil ?_
            have hE262 := hE261.sub (L' := [(2, .slice imagesA images.length imagesC), (3, .pointer (some ⟨b4, 0, none⟩)), (4, .pointer (some ⟨b10, 0, none⟩)), (8, .slice b133 (((F_s_DualHomomorphism fp0 fp1 gp0 gp1 images).1).length) c134), (9, .int .i64 ((F_s_DualHomomorphism fp0 fp1 gp0 gp1 images).2)), (10, .pointer (some ⟨b158, 0, none⟩)), (11, .pointer (some ⟨b182, 0, none⟩)), (12, .slice b203 ((images).length) c204), (13, .slice b221 (((F_DualHomomorphism fp0 fp1 gp0 gp1 images).1).length) c222), (14, .int .i64 ((F_DualHomomorphism fp0 fp1 gp0 gp1 images).2)), (64, .bool true)]) ⟨rfl, rfl, rfl, rfl, rfl, rfl, rfl, rfl, rfl, rfl, rfl, trivial⟩; clear hE261
            refine p_tn ?_
            have hE263 := hE262.sub (L' := [(2, .slice imagesA images.length imagesC), (3, .pointer (some ⟨b4, 0, none⟩)), (4, .pointer (some ⟨b10, 0, none⟩)), (8, .slice b133 (((F_s_DualHomomorphism fp0 fp1 gp0 gp1 images).1).length) c134), (9, .int .i64 ((F_s_DualHomomorphism fp0 fp1 gp0 gp1 images).2)), (10, .pointer (some ⟨b158, 0, none⟩)), (11, .pointer (some ⟨b182, 0, none⟩)), (12, .slice b203 ((images).length) c204), (13, .slice b221 (((F_DualHomomorphism fp0 fp1 gp0 gp1 images).1).length) c222), (14, .int .i64 ((F_DualHomomorphism fp0 fp1 gp0 gp1 images).2)), (64, .bool true)]) ⟨rfl, rfl, rfl, rfl, rfl, rfl, rfl, rfl, rfl, rfl, rfl, trivial⟩
            have hS264 := (St.pick (Γ' := [.own 2 1 b221 (((F_DualHomomorphism fp0 fp1 gp0 gp1 images).1).length) c222 ((F_DualHomomorphism fp0 fp1 gp0 gp1 images).1), .own 2 1 b203 ((images).length) c204 images, .own 2 1 b179 ((gp1).length) c180 gp1, .blk b182 #[.int .i64 gp0, .slice b179 ((gp1).length) c180] 26, .own 2 1 b155 ((fp1).length) c156 fp1, .blk b158 #[.int .i64 fp0, .slice b155 ((fp1).length) c156] 26, .own 2 1 b133 (((F_s_DualHomomorphism fp0 fp1 gp0 gp1 images).1).length) c134 ((F_s_DualHomomorphism fp0 fp1 gp0 gp1 images).1), .own 2 1 b124 ((images).length) c125 images, .own 2 1 b115 ((gp1).length) c116 gp1, .own 2 1 b106 ((fp1).length) c107 fp1, .rd 1 gp1A gp1.length gp1C gp1, .blk b10 #[.int .i64 gp0, .slice gp1A gp1.length gp1C] 24, .rd 1 fp1A fp1.length fp1C fp1, .blk b4 #[.int .i64 fp0, .slice fp1A fp1.length fp1C] 24, .rd 1 imagesA images.length imagesC images]) hS244 [0, 1, 3, 2, 5, 4, 6, 7, 8, 9, 13, 10, 14, 11, 12] (by decide) rfl)
            exact ⟨(by rw [hb250]; exact hE263), hS264⟩
          ·
            have hE265 := hE249; rw [hb250] at hE265; clear hE249
            have ht266 := bn_f hb250
            have hp267 := of_decide_eq_true ht266
            refine q_step (v := .int .i64 ((F_DualHomomorphism fp0 fp1 gp0 gp1 images).2)) hE265 (y_move rfl) rfl rfl rfl ?_; intro a268 hE269; clear hE265
            refine q_step (v := .int .i64 ((F_s_DualHomomorphism fp0 fp1 gp0 gp1 images).2)) hE269 (y_move rfl) rfl rfl rfl ?_; intro a270 hE271; clear hE269
            refine q_step (v := .bool (!decide (((F_DualHomomorphism fp0 fp1 gp0 gp1 images).2) = ((F_s_DualHomomorphism fp0 fp1 gp0 gp1 images).2)))) hE271 (y_neq rfl rfl) rfl rfl rfl ?_; intro a272 hE273; clear hE271
            refine q_step (v := .bool (!decide (((F_DualHomomorphism fp0 fp1 gp0 gp1 images).2) = ((F_s_DualHomomorphism fp0 fp1 gp0 gp1 images).2)))) hE273 (y_pick (b := false) rfl rfl) rfl rfl rfl ?_; intro a274 hE275; clear hE273
            refine c_nil ?_
            have hE276 := hE275.sub (L' := [(2, .slice imagesA images.length imagesC), (3, .pointer (some ⟨b4, 0, none⟩)), (4, .pointer (some ⟨b10, 0, none⟩)), (8, .slice b133 (((F_s_DualHomomorphism fp0 fp1 gp0 gp1 images).1).length) c134), (9, .int .i64 ((F_s_DualHomomorphism fp0 fp1 gp0 gp1 images).2)), (10, .pointer (some ⟨b158, 0, none⟩)), (11, .pointer (some ⟨b182, 0, none⟩)), (12, .slice b203 ((images).length) c204), (13, .slice b221 (((F_DualHomomorphism fp0 fp1 gp0 gp1 images).1).length) c222), (14, .int .i64 ((F_DualHomomorphism fp0 fp1 gp0 gp1 images).2)), (64, .bool (!decide (((F_DualHomomorphism fp0 fp1 gp0 gp1 images).2) = ((F_s_DualHomomorphism fp0 fp1 gp0 gp1 images).2))))]) ⟨rfl, rfl, rfl, rfl, rfl, rfl, rfl, rfl, rfl, rfl, rfl, trivial⟩; clear hE275
            refine p_tn ?_
            have hE277 := hE276.sub (L' := [(2, .slice imagesA images.length imagesC), (3, .pointer (some ⟨b4, 0, none⟩)), (4, .pointer (some ⟨b10, 0, none⟩)), (8, .slice b133 (((F_s_DualHomomorphism fp0 fp1 gp0 gp1 images).1).length) c134), (9, .int .i64 ((F_s_DualHomomorphism fp0 fp1 gp0 gp1 images).2)), (10, .pointer (some ⟨b158, 0, none⟩)), (11, .pointer (some ⟨b182, 0, none⟩)), (12, .slice b203 ((images).length) c204), (13, .slice b221 (((F_DualHomomorphism fp0 fp1 gp0 gp1 images).1).length) c222), (14, .int .i64 ((F_DualHomomorphism fp0 fp1 gp0 gp1 images).2)), (64, .bool (!decide (((F_DualHomomorphism fp0 fp1 gp0 gp1 images).2) = ((F_s_DualHomomorphism fp0 fp1 gp0 gp1 images).2))))]) ⟨rfl, rfl, rfl, rfl, rfl, rfl, rfl, rfl, rfl, rfl, rfl, trivial⟩
            have hS278 := (St.pick (Γ' := [.own 2 1 b221 (((F_DualHomomorphism fp0 fp1 gp0 gp1 images).1).length) c222 ((F_DualHomomorphism fp0 fp1 gp0 gp1 images).1), .own 2 1 b203 ((images).length) c204 images, .own 2 1 b179 ((gp1).length) c180 gp1, .blk b182 #[.int .i64 gp0, .slice b179 ((gp1).length) c180] 26, .own 2 1 b155 ((fp1).length) c156 fp1, .blk b158 #[.int .i64 fp0, .slice b155 ((fp1).length) c156] 26, .own 2 1 b133 (((F_s_DualHomomorphism fp0 fp1 gp0 gp1 images).1).length) c134 ((F_s_DualHomomorphism fp0 fp1 gp0 gp1 images).1), .own 2 1 b124 ((images).length) c125 images, .own 2 1 b115 ((gp1).length) c116 gp1, .own 2 1 b106 ((fp1).length) c107 fp1, .rd 1 gp1A gp1.length gp1C gp1, .blk b10 #[.int .i64 gp0, .slice gp1A gp1.length gp1C] 24, .rd 1 fp1A fp1.length fp1C fp1, .blk b4 #[.int .i64 fp0, .slice fp1A fp1.length fp1C] 24, .rd 1 imagesA images.length imagesC images]) hS244 [0, 1, 3, 2, 5, 4, 6, 7, 8, 9, 13, 10, 14, 11, 12] (by decide) rfl)
            exact ⟨(by rw [hb250]; exact hE277), hS278⟩
        ·
          rintro a279 w280 ⟨hE281, hS282⟩; clear hE235 hS219
          refine c_cond hE281 rfl (fun ht283 => ?_) (fun ht283 => ?_)
          ·
            have hE284 := hE281; rw [ht283] at hE284; clear hE281
            refine c_seq ?_
            refine c_reg ?_
            refine q_step (v := .bool false) hE284 (y_assign rfl) rfl rfl rfl ?_; intro a285 hE286; clear hE284
            refine c_nil ?_
            have hE287 := hE286.sub (L' := [(6, .bool false)]) ⟨rfl, trivial⟩; clear hE286
            refine p_tn ?_
            refine wp_ret ?_
            refine p_tr ?_
            have hF : F_l_FnExactDualHomomorphism fp0 fp1 gp0 gp1 images = false := by unfold F_l_FnExactDualHomomorphism; rw [ht283, ht82, ht55, ht26]; first | done | rfl
            refine c_ret1 hE287 rfl rfl ?_
            exact ⟨(by rw [hF]; first | done | rfl), hS282.ext⟩
          ·
            obtain ⟨ht288, ht289⟩ := bor_f ht283
            have ht290 := bn_f ht288
            have hp291 := of_decide_eq_true ht290
            have ht292 := bn_f ht289
            have hp293 := of_decide_eq_true ht292
            have hE294 := hE281; rw [ht283] at hE294; clear hE281
            refine wp_skip ?_
            refine p_tn ?_
            refine c_seq ?_
            refine c_seq ?_
            refine d_start (fun w' => w'.heap[b158]? = some (.cells #[.int .i64 fp0, .slice b155 ((fp1).length) c156] 26 (0, 0)) ∧ w'.heap[b4]? = some (.cells #[.int .i64 fp0, .slice fp1A fp1.length fp1C] 24 (0, 0)) ∧ True) [0, 1] 5 (by kernel_rfl) rfl ?_
            intro w295 he296; have hS297 := St.go hS282 he296; clear hS282
            refine d_take (v := .agg #[.int .i64 fp0, .slice b155 ((fp1).length) c156]) 0 rfl hE294 ⟨(St.row (i := 5) hS297 rfl _ (Ext.refl _)), (St.row (i := 13) hS297 rfl _ (Ext.refl _)), trivial⟩ (y_loadS Try.underlying26 rfl (by kernel_rfl) rfl (fun _ h => h.1)) rfl rfl (by kernel_rfl) (by kernel_rfl) (by kernel_rfl) rfl rfl (fun _ _ _ h => h) ?_; intro a298 hE299; clear hE294
            refine d_take (v := .agg #[.int .i64 fp0, .slice fp1A fp1.length fp1C]) 1 rfl hE299 ⟨(St.row (i := 5) hS297 rfl _ (Ext.refl _)), (St.row (i := 13) hS297 rfl _ (Ext.refl _)), trivial⟩ (y_loadS Try.underlying24 rfl (by kernel_rfl) rfl (fun _ h => h.2.1)) rfl rfl (by kernel_rfl) (by kernel_rfl) (by kernel_rfl) rfl rfl (fun _ _ _ h => h) ?_; intro a300 hE301; clear hE299
            refine d_only 2 (by kernel_rfl) rfl hE301 rfl (l_call (f := 17) (argv := [.agg #[.int .i64 fp0, .slice fp1A fp1.length fp1C]]) hE301 (fun _ => cf_l_toFrame _ _) rfl rfl (d_l_toFrame fp0 fp1A fp1.length fp1C fp1 w295 (St.rdR (i := 12) hS297 rfl) (by first | omega | (simp only [marked_len]; omega))) ?_)
            rintro _ w303 ⟨b308, c309, rfl, ho310, he307⟩ a304 hE305; clear hE301
            have hS306 := St.own hS297 he307 ho310; clear hS297
            refine ⟨fun _ _ => ⟨(St.row (i := 6) hS306 rfl _ (Ext.refl _)), (St.row (i := 14) hS306 rfl _ (Ext.refl _)), trivial⟩, ?_⟩
            refine d_only 3 (by kernel_rfl) rfl hE305 rfl (l_call (f := 19) (argv := [.agg #[.int .i64 fp0, .slice b155 ((fp1).length) c156], .agg #[.int .i64 fp0, .slice b308 ((fp1).length) c309]]) hE305 (fun _ => cf_l_eqFrame _ _) rfl rfl (d_l_eqFrame fp0 b155 ((fp1).length) c156 fp1 fp0 b308 ((fp1).length) c309 fp1 w303 (St.rdO (i := 5) hS306 rfl) (St.rdO (i := 0) hS306 rfl)) ?_)
            rintro _ w312 ⟨rfl, he316⟩ a313 hE314; clear hE305
            have hS315 := St.go hS306 he316; clear hS306
            refine ⟨fun _ _ => ⟨(St.row (i := 6) hS315 rfl _ (Ext.refl _)), (St.row (i := 14) hS315 rfl _ (Ext.refl _)), trivial⟩, ?_⟩
            refine d_pure (v := .bool (!(decide ((fp0, fp1) = (fp0, fp1))))) 4 rfl hE314 (y_not rfl) rfl (by kernel_rfl) (by kernel_rfl) (by kernel_rfl) rfl rfl (fun _ _ _ h => h) ?_; intro a317 hE318; clear hE314
            refine d_done (by kernel_rfl) ?_
            have hE319 := hE318.sub (L' := [(2, .slice imagesA images.length imagesC), (3, .pointer (some ⟨b4, 0, none⟩)), (4, .pointer (some ⟨b10, 0, none⟩)), (8, .slice b133 (((F_s_DualHomomorphism fp0 fp1 gp0 gp1 images).1).length) c134), (9, .int .i64 ((F_s_DualHomomorphism fp0 fp1 gp0 gp1 images).2)), (10, .pointer (some ⟨b158, 0, none⟩)), (11, .pointer (some ⟨b182, 0, none⟩)), (12, .slice b203 ((images).length) c204), (13, .slice b221 (((F_DualHomomorphism fp0 fp1 gp0 gp1 images).1).length) c222), (14, .int .i64 ((F_DualHomomorphism fp0 fp1 gp0 gp1 images).2)), (69, .bool (!(decide ((fp0, fp1) = (fp0, fp1)))))]) ⟨rfl, rfl, rfl, rfl, rfl, rfl, rfl, rfl, rfl, rfl, rfl, trivial⟩; clear hE318
            refine p_tn ?_
            refine c_cond hE319 rfl (fun ht320 => ?_) (fun ht320 => ?_)
            ·
              have ht321 := bn_t ht320
              have hp322 := of_decide_eq_false ht321
              have hE323 := hE319; rw [ht320] at hE323; clear hE319
              refine c_seq ?_
              refine c_reg ?_
              refine q_step (v := .bool false) hE323 (y_assign rfl) rfl rfl rfl ?_; intro a324 hE325; clear hE323
              refine c_nil ?_
              have hE326 := hE325.sub (L' := [(6, .bool false)]) ⟨rfl, trivial⟩; clear hE325
              refine p_tn ?_
              refine wp_ret ?_
              refine p_tr ?_
              have hF : F_l_FnExactDualHomomorphism fp0 fp1 gp0 gp1 images = false := by unfold F_l_FnExactDualHomomorphism; rw [ht320, ht283, ht82, ht55, ht26]; first | done | rfl
              refine c_ret1 hE326 rfl rfl ?_
              exact ⟨(by rw [hF]; first | done | rfl), hS315.ext⟩
            ·
              have ht327 := bn_f ht320
              have hp328 := of_decide_eq_true ht327
              have hE329 := hE319; rw [ht320] at hE329; clear hE319
              refine wp_skip ?_
              refine p_tn ?_
              refine c_seq ?_
              refine c_seq ?_
              refine d_start (fun w' => w'.heap[b182]? = some (.cells #[.int .i64 gp0, .slice b179 ((gp1).length) c180] 26 (0, 0)) ∧ w'.heap[b10]? = some (.cells #[.int .i64 gp0, .slice gp1A gp1.length gp1C] 24 (0, 0)) ∧ True) [0, 1] 5 (by kernel_rfl) rfl ?_
              intro w330 he331; have hS332 := St.go hS315 he331; clear hS315
              refine d_take (v := .agg #[.int .i64 gp0, .slice b179 ((gp1).length) c180]) 0 rfl hE329 ⟨(St.row (i := 4) hS332 rfl _ (Ext.refl _)), (St.row (i := 12) hS332 rfl _ (Ext.refl _)), trivial⟩ (y_loadS Try.underlying26 rfl (by kernel_rfl) rfl (fun _ h => h.1)) rfl rfl (by kernel_rfl) (by kernel_rfl) (by kernel_rfl) rfl rfl (fun _ _ _ h => h) ?_; intro a333 hE334; clear hE329
              refine d_take (v := .agg #[.int .i64 gp0, .slice gp1A gp1.length gp1C]) 1 rfl hE334 ⟨(St.row (i := 4) hS332 rfl _ (Ext.refl _)), (St.row (i := 12) hS332 rfl _ (Ext.refl _)), trivial⟩ (y_loadS Try.underlying24 rfl (by kernel_rfl) rfl (fun _ h => h.2.1)) rfl rfl (by kernel_rfl) (by kernel_rfl) (by kernel_rfl) rfl rfl (fun _ _ _ h => h) ?_; intro a335 hE336; clear hE334
              refine d_only 2 (by kernel_rfl) rfl hE336 rfl (l_call (f := 17) (argv := [.agg #[.int .i64 gp0, .slice gp1A gp1.length gp1C]]) hE336 (fun _ => cf_l_toFrame _ _) rfl rfl (d_l_toFrame gp0 gp1A gp1.length gp1C gp1 w330 (St.rdR (i := 11) hS332 rfl) (by first | omega | (simp only [marked_len]; omega))) ?_)
              rintro _ w338 ⟨b343, c344, rfl, ho345, he342⟩ a339 hE340; clear hE336
              have hS341 := St.own hS332 he342 ho345; clear hS332
              refine ⟨fun _ _ => ⟨(St.row (i := 5) hS341 rfl _ (Ext.refl _)), (St.row (i := 13) hS341 rfl _ (Ext.refl _)), trivial⟩, ?_⟩
              refine d_only 3 (by kernel_rfl) rfl hE340 rfl (l_call (f := 19) (argv := [.agg #[.int .i64 gp0, .slice b179 ((gp1).length) c180], .agg #[.int .i64 gp0, .slice b343 ((gp1).length) c344]]) hE340 (fun _ => cf_l_eqFrame _ _) rfl rfl (d_l_eqFrame gp0 b179 ((gp1).length) c180 gp1 gp0 b343 ((gp1).length) c344 gp1 w338 (St.rdO (i := 4) hS341 rfl) (St.rdO (i := 0) hS341 rfl)) ?_)
              rintro _ w347 ⟨rfl, he351⟩ a348 hE349; clear hE340
              have hS350 := St.go hS341 he351; clear hS341
              refine ⟨fun _ _ => ⟨(St.row (i := 5) hS350 rfl _ (Ext.refl _)), (St.row (i := 13) hS350 rfl _ (Ext.refl _)), trivial⟩, ?_⟩
              refine d_pure (v := .bool (!(decide ((gp0, gp1) = (gp0, gp1))))) 4 rfl hE349 (y_not rfl) rfl (by kernel_rfl) (by kernel_rfl) (by kernel_rfl) rfl rfl (fun _ _ _ h => h) ?_; intro a352 hE353; clear hE349
              refine d_done (by kernel_rfl) ?_
              have hE354 := hE353.sub (L' := [(2, .slice imagesA images.length imagesC), (3, .pointer (some ⟨b4, 0, none⟩)), (4, .pointer (some ⟨b10, 0, none⟩)), (8, .slice b133 (((F_s_DualHomomorphism fp0 fp1 gp0 gp1 images).1).length) c134), (9, .int .i64 ((F_s_DualHomomorphism fp0 fp1 gp0 gp1 images).2)), (10, .pointer (some ⟨b158, 0, none⟩)), (11, .pointer (some ⟨b182, 0, none⟩)), (12, .slice b203 ((images).length) c204), (13, .slice b221 (((F_DualHomomorphism fp0 fp1 gp0 gp1 images).1).length) c222), (14, .int .i64 ((F_DualHomomorphism fp0 fp1 gp0 gp1 images).2)), (74, .bool (!(decide ((gp0, gp1) = (gp0, gp1)))))]) ⟨rfl, rfl, rfl, rfl, rfl, rfl, rfl, rfl, rfl, rfl, rfl, trivial⟩; clear hE353
              refine p_tn ?_
              refine c_cond hE354 rfl (fun ht355 => ?_) (fun ht355 => ?_)
              ·
                have ht356 := bn_t ht355
                have hp357 := of_decide_eq_false ht356
                have hE358 := hE354; rw [ht355] at hE358; clear hE354
                refine c_seq ?_
                refine c_reg ?_
                refine q_step (v := .bool false) hE358 (y_assign rfl) rfl rfl rfl ?_; intro a359 hE360; clear hE358
                refine c_nil ?_
                have hE361 := hE360.sub (L' := [(6, .bool false)]) ⟨rfl, trivial⟩; clear hE360
                refine p_tn ?_
                refine wp_ret ?_
                refine p_tr ?_
                have hF : F_l_FnExactDualHomomorphism fp0 fp1 gp0 gp1 images = false := by unfold F_l_FnExactDualHomomorphism; rw [ht355, ht320, ht283, ht82, ht55, ht26]; first | done | rfl
                refine c_ret1 hE361 rfl rfl ?_
                exact ⟨(by rw [hF]; first | done | rfl), hS350.ext⟩
              ·
                have ht362 := bn_f ht355
                have hp363 := of_decide_eq_true ht362
                have hE364 := hE354; rw [ht355] at hE364; clear hE354
                refine wp_skip ?_
                refine p_tn ?_
                refine c_seq ?_
                refine c_seq ?_
                refine c_reg ?_
                refine q_step (v := .slice b203 ((images).length) c204) hE364 (y_move rfl) rfl rfl rfl ?_; intro a365 hE366; clear hE364
                refine q_step (v := .slice imagesA images.length imagesC) hE366 (y_move rfl) rfl rfl rfl ?_; intro a367 hE368; clear hE366
                refine l_step hE368 rfl (l_call (f := 23) (argv := [.slice imagesA images.length imagesC]) hE368 (fun _ => cf_l_toInt64S _ _) rfl rfl (d_l_toInt64S imagesA images.length imagesC images w347 (St.rdR (i := 16) hS350 rfl) (by first | omega | (simp only [marked_len]; omega))) ?_)
                rintro _ w370 ⟨b375, c376, rfl, ho377, he374⟩ a371 hE372; clear hE368
                have hS373 := St.own hS350 he374 ho377; clear hS350
                refine l_step hE372 rfl (l_call (f := 25) (argv := [.slice b203 ((images).length) c204, .slice b375 ((images).length) c376]) hE372 (fun _ => cf_l_eqInt64S _ _) rfl rfl (d_l_eqInt64S b203 ((images).length) c204 images b375 ((images).length) c376 images w370 (St.rdO (i := 4) hS373 rfl) (St.rdO (i := 0) hS373 rfl)) ?_)
                rintro _ w379 ⟨rfl, he383⟩ a380 hE381; clear hE372
                have hS382 := St.go hS373 he383; clear hS373
                refine q_step (v := .bool (!(decide (images = images)))) hE381 (y_not rfl) rfl rfl rfl ?_; intro a384 hE385; clear hE381
                refine c_nil ?_
                have hE386 := hE385.sub (L' := [(2, .slice imagesA images.length imagesC), (3, .pointer (some ⟨b4, 0, none⟩)), (4, .pointer (some ⟨b10, 0, none⟩)), (8, .slice b133 (((F_s_DualHomomorphism fp0 fp1 gp0 gp1 images).1).length) c134), (9, .int .i64 ((F_s_DualHomomorphism fp0 fp1 gp0 gp1 images).2)), (10, .pointer (some ⟨b158, 0, none⟩)), (11, .pointer (some ⟨b182, 0, none⟩)), (12, .slice b203 ((images).length) c204), (13, .slice b221 (((F_DualHomomorphism fp0 fp1 gp0 gp1 images).1).length) c222), (14, .int .i64 ((F_DualHomomorphism fp0 fp1 gp0 gp1 images).2)), (79, .bool (!(decide (images = images))))]) ⟨rfl, rfl, rfl, rfl, rfl, rfl, rfl, rfl, rfl, rfl, rfl, trivial⟩; clear hE385
                refine p_tn ?_
                refine c_cond hE386 rfl (fun ht387 => ?_) (fun ht387 => ?_)
                ·
                  have ht388 := bn_t ht387
                  have hp389 := of_decide_eq_false ht388
                  have hE390 := hE386; rw [ht387] at hE390; clear hE386
                  refine c_seq ?_
                  refine c_reg ?_
                  refine q_step (v := .bool false) hE390 (y_assign rfl) rfl rfl rfl ?_; intro a391 hE392; clear hE390
                  refine c_nil ?_
                  have hE393 := hE392.sub (L' := [(6, .bool false)]) ⟨rfl, trivial⟩; clear hE392
                  refine p_tn ?_
                  refine wp_ret ?_
                  refine p_tr ?_
                  have hF : F_l_FnExactDualHomomorphism fp0 fp1 gp0 gp1 images = false := by unfold F_l_FnExactDualHomomorphism; rw [ht387, ht355, ht320, ht283, ht82, ht55, ht26]; first | done | rfl
                  refine c_ret1 hE393 rfl rfl ?_
                  exact ⟨(by rw [hF]; first | done | rfl), hS382.ext⟩
                ·
                  have ht394 := bn_f ht387
                  have hp395 := of_decide_eq_true ht394
                  have hE396 := hE386; rw [ht387] at hE396; clear hE386
                  refine wp_skip ?_
                  refine p_tn ?_
                  refine c_seq ?_
                  refine c_reg ?_
                  refine q_step (v := .int .i64 1) hE396 (y_assign rfl) rfl rfl rfl ?_; intro a397 hE398; clear hE396
                  refine c_nil ?_
                  have hE399 := hE398.sub (L' := [(2, .slice imagesA images.length imagesC), (3, .pointer (some ⟨b4, 0, none⟩)), (4, .pointer (some ⟨b10, 0, none⟩)), (8, .slice b133 (((F_s_DualHomomorphism fp0 fp1 gp0 gp1 images).1).length) c134), (9, .int .i64 ((F_s_DualHomomorphism fp0 fp1 gp0 gp1 images).2)), (10, .pointer (some ⟨b158, 0, none⟩)), (11, .pointer (some ⟨b182, 0, none⟩)), (12, .slice b203 ((images).length) c204), (13, .slice b221 (((F_DualHomomorphism fp0 fp1 gp0 gp1 images).1).length) c222), (14, .int .i64 ((F_DualHomomorphism fp0 fp1 gp0 gp1 images).2)), (15, .int .i64 1)]) ⟨rfl, rfl, rfl, rfl, rfl, rfl, rfl, rfl, rfl, rfl, rfl, trivial⟩; clear hE398
                  refine p_tn ?_
                  refine c_seq ?_
                  refine c_reg ?_
                  refine q_step (v := .agg #[.int .i64 fp0, .slice b155 ((fp1).length) c156]) hE399 (y_loadS Try.underlying26 rfl (by kernel_rfl) rfl (St.row (i := 8) hS382 rfl)) rfl rfl rfl ?_; intro a400 hE401; clear hE399
                  refine q_step (v := .int .i64 1) hE401 (y_move rfl) rfl rfl rfl ?_; intro a402 hE403; clear hE401
                  have hS410 := (St.pick (Γ' := [.own 2 1 b155 ((fp1).length) c156 fp1, .own 2 1 b375 ((images).length) c376 images, .own 2 1 b343 ((gp1).length) c344 gp1, .own 2 1 b308 ((fp1).length) c309 fp1, .own 2 1 b221 (((F_DualHomomorphism fp0 fp1 gp0 gp1 images).1).length) c222 ((F_DualHomomorphism fp0 fp1 gp0 gp1 images).1), .own 2 1 b203 ((images).length) c204 images, .own 2 1 b179 ((gp1).length) c180 gp1, .blk b182 #[.int .i64 gp0, .slice b179 ((gp1).length) c180] 26, .blk b158 #[.int .i64 fp0, .slice b155 ((fp1).length) c156] 26, .own 2 1 b133 (((F_s_DualHomomorphism fp0 fp1 gp0 gp1 images).1).length) c134 ((F_s_DualHomomorphism fp0 fp1 gp0 gp1 images).1), .own 2 1 b124 ((images).length) c125 images, .own 2 1 b115 ((gp1).length) c116 gp1, .own 2 1 b106 ((fp1).length) c107 fp1, .rd 1 gp1A gp1.length gp1C gp1, .blk b10 #[.int .i64 gp0, .slice gp1A gp1.length gp1C] 24, .rd 1 fp1A fp1.length fp1C fp1, .blk b4 #[.int .i64 fp0, .slice fp1A fp1.length fp1C] 24, .rd 1 imagesA images.length imagesC images]) hS382 [7, 0, 1, 2, 3, 4, 5, 6, 8, 9, 10, 11, 12, 13, 14, 15, 16, 17] (by decide) rfl); clear hS382
                  refine l_step hE403 rfl (l_call (f := 20) (argv := [.agg #[.int .i64 fp0, .slice b155 ((fp1).length) c156], .int .i64 1]) hE403 (fun _ => cf_l_markFrame _ _) rfl rfl (d_l_markFrame fp0 b155 ((fp1).length) c156 fp1 1 w379 w [.own 2 1 b375 ((images).length) c376 images, .own 2 1 b343 ((gp1).length) c344 gp1, .own 2 1 b308 ((fp1).length) c309 fp1, .own 2 1 b221 (((F_DualHomomorphism fp0 fp1 gp0 gp1 images).1).length) c222 ((F_DualHomomorphism fp0 fp1 gp0 gp1 images).1), .own 2 1 b203 ((images).length) c204 images, .own 2 1 b179 ((gp1).length) c180 gp1, .blk b182 #[.int .i64 gp0, .slice b179 ((gp1).length) c180] 26, .blk b158 #[.int .i64 fp0, .slice b155 ((fp1).length) c156] 26, .own 2 1 b133 (((F_s_DualHomomorphism fp0 fp1 gp0 gp1 images).1).length) c134 ((F_s_DualHomomorphism fp0 fp1 gp0 gp1 images).1), .own 2 1 b124 ((images).length) c125 images, .own 2 1 b115 ((gp1).length) c116 gp1, .own 2 1 b106 ((fp1).length) c107 fp1, .rd 1 gp1A gp1.length gp1C gp1, .blk b10 #[.int .i64 gp0, .slice gp1A gp1.length gp1C] 24, .rd 1 fp1A fp1.length fp1C fp1, .blk b4 #[.int .i64 fp0, .slice fp1A fp1.length fp1C] 24, .rd 1 imagesA images.length imagesC images] hS410 (by first | omega | (simp only [marked_len]; omega)) (by first | omega | (simp only [marked_len]; omega)) (by first | omega | (simp only [marked_len]; omega))) ?_)
                  rintro _ w405 ⟨rfl, hS408⟩ a406 hE407; clear hE403 hS410
                  refine q_step (v := .int .i64 (1 + (fp1.length : Int))) hE407 (y_assign rfl) rfl rfl rfl ?_; intro a411 hE412; clear hE407
                  refine c_nil ?_
                  have hE413 := hE412.sub (L' := [(2, .slice imagesA images.length imagesC), (3, .pointer (some ⟨b4, 0, none⟩)), (4, .pointer (some ⟨b10, 0, none⟩)), (8, .slice b133 (((F_s_DualHomomorphism fp0 fp1 gp0 gp1 images).1).length) c134), (9, .int .i64 ((F_s_DualHomomorphism fp0 fp1 gp0 gp1 images).2)), (11, .pointer (some ⟨b182, 0, none⟩)), (12, .slice b203 ((images).length) c204), (13, .slice b221 (((F_DualHomomorphism fp0 fp1 gp0 gp1 images).1).length) c222), (14, .int .i64 ((F_DualHomomorphism fp0 fp1 gp0 gp1 images).2)), (15, .int .i64 (1 + (fp1.length : Int)))]) ⟨rfl, rfl, rfl, rfl, rfl, rfl, rfl, rfl, rfl, rfl, trivial⟩; clear hE412
                  refine p_tn ?_
                  refine c_seq ?_
                  refine c_reg ?_
                  refine q_step (v := .agg #[.int .i64 gp0, .slice b179 ((gp1).length) c180]) hE413 (y_loadS Try.underlying26 rfl (by kernel_rfl) rfl (St.row (i := 7) hS408 rfl)) rfl rfl rfl ?_; intro a414 hE415; clear hE413
                  refine q_step (v := .int .i64 (1 + (fp1.length : Int))) hE415 (y_move rfl) rfl rfl rfl ?_; intro a416 hE417; clear hE415
                  have hS424 := (St.pick (Γ' := [.own 2 1 b179 ((gp1).length) c180 gp1, .own 2 1 b155 ((fp1).length) c156 (marked fp1.length 1), .own 2 1 b375 ((images).length) c376 images, .own 2 1 b343 ((gp1).length) c344 gp1, .own 2 1 b308 ((fp1).length) c309 fp1, .own 2 1 b221 (((F_DualHomomorphism fp0 fp1 gp0 gp1 images).1).length) c222 ((F_DualHomomorphism fp0 fp1 gp0 gp1 images).1), .own 2 1 b203 ((images).length) c204 images, .blk b182 #[.int .i64 gp0, .slice b179 ((gp1).length) c180] 26, .blk b158 #[.int .i64 fp0, .slice b155 ((fp1).length) c156] 26, .own 2 1 b133 (((F_s_DualHomomorphism fp0 fp1 gp0 gp1 images).1).length) c134 ((F_s_DualHomomorphism fp0 fp1 gp0 gp1 images).1), .own 2 1 b124 ((images).length) c125 images, .own 2 1 b115 ((gp1).length) c116 gp1, .own 2 1 b106 ((fp1).length) c107 fp1, .rd 1 gp1A gp1.length gp1C gp1, .blk b10 #[.int .i64 gp0, .slice gp1A gp1.length gp1C] 24, .rd 1 fp1A fp1.length fp1C fp1, .blk b4 #[.int .i64 fp0, .slice fp1A fp1.length fp1C] 24, .rd 1 imagesA images.length imagesC images]) hS408 [6, 0, 1, 2, 3, 4, 5, 7, 8, 9, 10, 11, 12, 13, 14, 15, 16, 17] (by decide) rfl); clear hS408
                  refine l_step hE417 rfl (l_call (f := 20) (argv := [.agg #[.int .i64 gp0, .slice b179 ((gp1).length) c180], .int .i64 (1 + (fp1.length : Int))]) hE417 (fun _ => cf_l_markFrame _ _) rfl rfl (d_l_markFrame gp0 b179 ((gp1).length) c180 gp1 (1 + (fp1.length : Int)) w405 w [.own 2 1 b155 ((fp1).length) c156 (marked fp1.length 1), .own 2 1 b375 ((images).length) c376 images, .own 2 1 b343 ((gp1).length) c344 gp1, .own 2 1 b308 ((fp1).length) c309 fp1, .own 2 1 b221 (((F_DualHomomorphism fp0 fp1 gp0 gp1 images).1).length) c222 ((F_DualHomomorphism fp0 fp1 gp0 gp1 images).1), .own 2 1 b203 ((images).length) c204 images, .blk b182 #[.int .i64 gp0, .slice b179 ((gp1).length) c180] 26, .blk b158 #[.int .i64 fp0, .slice b155 ((fp1).length) c156] 26, .own 2 1 b133 (((F_s_DualHomomorphism fp0 fp1 gp0 gp1 images).1).length) c134 ((F_s_DualHomomorphism fp0 fp1 gp0 gp1 images).1), .own 2 1 b124 ((images).length) c125 images, .own 2 1 b115 ((gp1).length) c116 gp1, .own 2 1 b106 ((fp1).length) c107 fp1, .rd 1 gp1A gp1.length gp1C gp1, .blk b10 #[.int .i64 gp0, .slice gp1A gp1.length gp1C] 24, .rd 1 fp1A fp1.length fp1C fp1, .blk b4 #[.int .i64 fp0, .slice fp1A fp1.length fp1C] 24, .rd 1 imagesA images.length imagesC images] hS424 (by first | omega | (simp only [marked_len]; omega)) (by first | omega | (simp only [marked_len]; omega)) (by first | omega | (simp only [marked_len]; omega))) ?_)
                  rintro _ w419 ⟨rfl, hS422⟩ a420 hE421; clear hE417 hS424
                  refine q_step (v := .int .i64 ((1 + (fp1.length : Int)) + (gp1.length : Int))) hE421 (y_assign rfl) rfl rfl rfl ?_; intro a425 hE426; clear hE421
                  refine c_nil ?_
                  have hE427 := hE426.sub (L' := [(2, .slice imagesA images.length imagesC), (3, .pointer (some ⟨b4, 0, none⟩)), (4, .pointer (some ⟨b10, 0, none⟩)), (8, .slice b133 (((F_s_DualHomomorphism fp0 fp1 gp0 gp1 images).1).length) c134), (9, .int .i64 ((F_s_DualHomomorphism fp0 fp1 gp0 gp1 images).2)), (12, .slice b203 ((images).length) c204), (13, .slice b221 (((F_DualHomomorphism fp0 fp1 gp0 gp1 images).1).length) c222), (14, .int .i64 ((F_DualHomomorphism fp0 fp1 gp0 gp1 images).2)), (15, .int .i64 ((1 + (fp1.length : Int)) + (gp1.length : Int)))]) ⟨rfl, rfl, rfl, rfl, rfl, rfl, rfl, rfl, rfl, trivial⟩; clear hE426
                  refine p_tn ?_
                  refine c_seq ?_
                  refine c_reg ?_
                  refine q_step (v := .slice b203 ((images).length) c204) hE427 (y_move rfl) rfl rfl rfl ?_; intro a428 hE429; clear hE427
                  refine q_step (v := .int .i64 ((1 + (fp1.length : Int)) + (gp1.length : Int))) hE429 (y_move rfl) rfl rfl rfl ?_; intro a430 hE431; clear hE429
                  have hS438 := (St.pick (Γ' := [.own 2 1 b203 ((images).length) c204 images, .own 2 1 b179 ((gp1).length) c180 (marked gp1.length (1 + (fp1.length : Int))), .own 2 1 b155 ((fp1).length) c156 (marked fp1.length 1), .own 2 1 b375 ((images).length) c376 images, .own 2 1 b343 ((gp1).length) c344 gp1, .own 2 1 b308 ((fp1).length) c309 fp1, .own 2 1 b221 (((F_DualHomomorphism fp0 fp1 gp0 gp1 images).1).length) c222 ((F_DualHomomorphism fp0 fp1 gp0 gp1 images).1), .blk b182 #[.int .i64 gp0, .slice b179 ((gp1).length) c180] 26, .blk b158 #[.int .i64 fp0, .slice b155 ((fp1).length) c156] 26, .own 2 1 b133 (((F_s_DualHomomorphism fp0 fp1 gp0 gp1 images).1).length) c134 ((F_s_DualHomomorphism fp0 fp1 gp0 gp1 images).1), .own 2 1 b124 ((images).length) c125 images, .own 2 1 b115 ((gp1).length) c116 gp1, .own 2 1 b106 ((fp1).length) c107 fp1, .rd 1 gp1A gp1.length gp1C gp1, .blk b10 #[.int .i64 gp0, .slice gp1A gp1.length gp1C] 24, .rd 1 fp1A fp1.length fp1C fp1, .blk b4 #[.int .i64 fp0, .slice fp1A fp1.length fp1C] 24, .rd 1 imagesA images.length imagesC images]) hS422 [6, 0, 1, 2, 3, 4, 5, 7, 8, 9, 10, 11, 12, 13, 14, 15, 16, 17] (by decide) rfl); clear hS422
                  refine l_step hE431 rfl (l_call (f := 26) (argv := [.slice b203 ((images).length) c204, .int .i64 ((1 + (fp1.length : Int)) + (gp1.length : Int))]) hE431 (fun _ => cf_l_markInt64S _ _) rfl rfl (d_l_markInt64S b203 ((images).length) c204 images ((1 + (fp1.length : Int)) + (gp1.length : Int)) w419 w [.own 2 1 b179 ((gp1).length) c180 (marked gp1.length (1 + (fp1.length : Int))), .own 2 1 b155 ((fp1).length) c156 (marked fp1.length 1), .own 2 1 b375 ((images).length) c376 images, .own 2 1 b343 ((gp1).length) c344 gp1, .own 2 1 b308 ((fp1).length) c309 fp1, .own 2 1 b221 (((F_DualHomomorphism fp0 fp1 gp0 gp1 images).1).length) c222 ((F_DualHomomorphism fp0 fp1 gp0 gp1 images).1), .blk b182 #[.int .i64 gp0, .slice b179 ((gp1).length) c180] 26, .blk b158 #[.int .i64 fp0, .slice b155 ((fp1).length) c156] 26, .own 2 1 b133 (((F_s_DualHomomorphism fp0 fp1 gp0 gp1 images).1).length) c134 ((F_s_DualHomomorphism fp0 fp1 gp0 gp1 images).1), .own 2 1 b124 ((images).length) c125 images, .own 2 1 b115 ((gp1).length) c116 gp1, .own 2 1 b106 ((fp1).length) c107 fp1, .rd 1 gp1A gp1.length gp1C gp1, .blk b10 #[.int .i64 gp0, .slice gp1A gp1.length gp1C] 24, .rd 1 fp1A fp1.length fp1C fp1, .blk b4 #[.int .i64 fp0, .slice fp1A fp1.length fp1C] 24, .rd 1 imagesA images.length imagesC images] hS438 (by first | omega | (simp only [marked_len]; omega)) (by first | omega | (simp only [marked_len]; omega)) (by first | omega | (simp only [marked_len]; omega))) ?_)
                  rintro _ w433 ⟨rfl, hS436⟩ a434 hE435; clear hE431 hS438
                  refine q_step (v := .int .i64 (((1 + (fp1.length : Int)) + (gp1.length : Int)) + (images.length : Int))) hE435 (y_assign rfl) rfl rfl rfl ?_; intro a439 hE440; clear hE435
                  refine c_nil ?_
                  have hE441 := hE440.sub (L' := [(2, .slice imagesA images.length imagesC), (3, .pointer (some ⟨b4, 0, none⟩)), (4, .pointer (some ⟨b10, 0, none⟩)), (8, .slice b133 (((F_s_DualHomomorphism fp0 fp1 gp0 gp1 images).1).length) c134), (9, .int .i64 ((F_s_DualHomomorphism fp0 fp1 gp0 gp1 images).2)), (13, .slice b221 (((F_DualHomomorphism fp0 fp1 gp0 gp1 images).1).length) c222), (14, .int .i64 ((F_DualHomomorphism fp0 fp1 gp0 gp1 images).2)), (15, .int .i64 (((1 + (fp1.length : Int)) + (gp1.length : Int)) + (images.length : Int)))]) ⟨rfl, rfl, rfl, rfl, rfl, rfl, rfl, rfl, trivial⟩; clear hE440
                  refine p_tn ?_
                  refine c_seq ?_
                  refine c_cut (fun a' w' => E a' 140 [(2, .slice imagesA images.length imagesC), (3, .pointer (some ⟨b4, 0, none⟩)), (4, .pointer (some ⟨b10, 0, none⟩)), (8, .slice b133 (((F_s_DualHomomorphism fp0 fp1 gp0 gp1 images).1).length) c134), (9, .int .i64 ((F_s_DualHomomorphism fp0 fp1 gp0 gp1 images).2)), (13, .slice b221 (((F_DualHomomorphism fp0 fp1 gp0 gp1 images).1).length) c222), (101, .bool ((decide ((((1 + (fp1.length : Int)) + (gp1.length : Int)) + (images.length : Int)) < 0)) || ((!(decide (((F_DualHomomorphism fp0 fp1 gp0 gp1 images).1) = ((F_s_DualHomomorphism fp0 fp1 gp0 gp1 images).1)))) || (!decide (((F_DualHomomorphism fp0 fp1 gp0 gp1 images).2) = ((F_s_DualHomomorphism fp0 fp1 gp0 gp1 images).2))))))] ∧ St w w' [.own 2 1 b203 ((images).length) c204 (marked images.length ((1 + (fp1.length : Int)) + (gp1.length : Int))), .own 2 1 b179 ((gp1).length) c180 (marked gp1.length (1 + (fp1.length : Int))), .own 2 1 b155 ((fp1).length) c156 (marked fp1.length 1), .own 2 1 b375 ((images).length) c376 images, .own 2 1 b343 ((gp1).length) c344 gp1, .own 2 1 b308 ((fp1).length) c309 fp1, .own 2 1 b221 (((F_DualHomomorphism fp0 fp1 gp0 gp1 images).1).length) c222 ((F_DualHomomorphism fp0 fp1 gp0 gp1 images).1), .blk b182 #[.int .i64 gp0, .slice b179 ((gp1).length) c180] 26, .blk b158 #[.int .i64 fp0, .slice b155 ((fp1).length) c156] 26, .own 2 1 b133 (((F_s_DualHomomorphism fp0 fp1 gp0 gp1 images).1).length) c134 ((F_s_DualHomomorphism fp0 fp1 gp0 gp1 images).1), .own 2 1 b124 ((images).length) c125 images, .own 2 1 b115 ((gp1).length) c116 gp1, .own 2 1 b106 ((fp1).length) c107 fp1, .rd 1 gp1A gp1.length gp1C gp1, .blk b10 #[.int .i64 gp0, .slice gp1A gp1.length gp1C] 24, .rd 1 fp1A fp1.length fp1C fp1, .blk b4 #[.int .i64 fp0, .slice fp1A fp1.length fp1C] 24, .rd 1 imagesA images.length imagesC images]) ?_ ?_
                  ·
                    refine c_reg ?_
                    refine q_step (v := .int .i64 (((1 + (fp1.length : Int)) + (gp1.length : Int)) + (images.length : Int))) hE441 (y_move rfl) rfl rfl rfl ?_; intro a442 hE443; clear hE441
                    refine q_step (v := .bool (decide ((((1 + (fp1.length : Int)) + (gp1.length : Int)) + (images.length : Int)) < 0))) hE443 (y_lss rfl rfl) rfl rfl rfl ?_; intro a444 hE445; clear hE443
                    refine q_step (v := .bool (decide ((((1 + (fp1.length : Int)) + (gp1.length : Int)) + (images.length : Int)) < 0))) hE445 (y_move rfl) rfl rfl rfl ?_; intro a446 hE447; clear hE445
                    rcases Bool.eq_false_or_eq_true (decide ((((1 + (fp1.length : Int)) + (gp1.length : Int)) + (images.length : Int)) < 0)) with hb448 | hb448
                    ·
                      have hE449 := hE447; rw [hb448] at hE449; clear hE447
                      have hp450 := of_decide_eq_true hb448
                      refine q_skip hE449 rfl rfl rfl ?_; intro a451 hE452; clear hE449
                      refine q_skip hE452 rfl rfl rfl ?_; intro a453 hE454; clear hE452
                      refine q_skip hE454 rfl rfl rfl ?_; intro a455 hE456; clear hE454
                      refine q_skip hE456 rfl rfl rfl ?_; intro a457 hE458; clear hE456
                      refine q_step (v := .bool true) hE458 (y_pick (b := true) rfl rfl) rfl rfl rfl ?_; intro a459 hE460; clear hE458
                      refine q_step (v := .bool true) hE460 (y_move rfl) rfl rfl rfl ?_; intro a461 hE462; clear hE460
                      refine q_skip hE462 rfl rfl rfl ?_; intro a463 hE464; clear hE462
                      refine q_skip hE464 rfl rfl rfl ?_; intro a465 hE466; clear hE464
                      refine q_skip hE466 rfl rfl rfl ?_; intro a467 hE468; clear hE466
                      refine q_step (v := .bool true) hE468 (y_pick (b := true) rfl rfl) rfl rfl rfl ?_; intro a469 hE470; clear hE468
                      refine c_nil ?_
                      have hE471 := hE470.sub (L' := [(2, .slice imagesA images.length imagesC), (3, .pointer (some ⟨b4, 0, none⟩)), (4, .pointer (some ⟨b10, 0, none⟩)), (8, .slice b133 (((F_s_DualHomomorphism fp0 fp1 gp0 gp1 images).1).length) c134), (9, .int .i64 ((F_s_DualHomomorphism fp0 fp1 gp0 gp1 images).2)), (13, .slice b221 (((F_DualHomomorphism fp0 fp1 gp0 gp1 images).1).length) c222), (101, .bool true)]) ⟨rfl, rfl, rfl, rfl, rfl, rfl, rfl, trivial⟩; clear hE470
                      refine p_tn ?_
                      have hE472 := hE471.sub (L' := [(2, .slice imagesA images.length imagesC), (3, .pointer (some ⟨b4, 0, none⟩)), (4, .pointer (some ⟨b10, 0, none⟩)), (8, .slice b133 (((F_s_DualHomomorphism fp0 fp1 gp0 gp1 images).1).length) c134), (9, .int .i64 ((F_s_DualHomomorphism fp0 fp1 gp0 gp1 images).2)), (13, .slice b221 (((F_DualHomomorphism fp0 fp1 gp0 gp1 images).1).length) c222), (101, .bool true)]) ⟨rfl, rfl, rfl, rfl, rfl, rfl, rfl, trivial⟩
                      have hS473 := (St.pick (Γ' := [.own 2 1 b203 ((images).length) c204 (marked images.length ((1 + (fp1.length : Int)) + (gp1.length : Int))), .own 2 1 b179 ((gp1).length) c180 (marked gp1.length (1 + (fp1.length : Int))), .own 2 1 b155 ((fp1).length) c156 (marked fp1.length 1), .own 2 1 b375 ((images).length) c376 images, .own 2 1 b343 ((gp1).length) c344 gp1, .own 2 1 b308 ((fp1).length) c309 fp1, .own 2 1 b221 (((F_DualHomomorphism fp0 fp1 gp0 gp1 images).1).length) c222 ((F_DualHomomorphism fp0 fp1 gp0 gp1 images).1), .blk b182 #[.int .i64 gp0, .slice b179 ((gp1).length) c180] 26, .blk b158 #[.int .i64 fp0, .slice b155 ((fp1).length) c156] 26, .own 2 1 b133 (((F_s_DualHomomorphism fp0 fp1 gp0 gp1 images).1).length) c134 ((F_s_DualHomomorphism fp0 fp1 gp0 gp1 images).1), .own 2 1 b124 ((images).length) c125 images, .own 2 1 b115 ((gp1).length) c116 gp1, .own 2 1 b106 ((fp1).length) c107 fp1, .rd 1 gp1A gp1.length gp1C gp1, .blk b10 #[.int .i64 gp0, .slice gp1A gp1.length gp1C] 24, .rd 1 fp1A fp1.length fp1C fp1, .blk b4 #[.int .i64 fp0, .slice fp1A fp1.length fp1C] 24, .rd 1 imagesA images.length imagesC images]) hS436 [0, 1, 2, 3, 4, 5, 6, 7, 8, 9, 10, 11, 12, 13, 14, 15, 16, 17] (by decide) rfl)
                      exact ⟨(by rw [hb448]; exact hE472), hS473⟩
                    ·
                      have hE474 := hE447; rw [hb448] at hE474; clear hE447
                      have hp475 := of_decide_eq_false hb448
                      refine q_step (v := .slice b221 (((F_DualHomomorphism fp0 fp1 gp0 gp1 images).1).length) c222) hE474 (y_move rfl) rfl rfl rfl ?_; intro a476 hE477; clear hE474
                      refine q_step (v := .slice b133 (((F_s_DualHomomorphism fp0 fp1 gp0 gp1 images).1).length) c134) hE477 (y_move rfl) rfl rfl rfl ?_; intro a478 hE479; clear hE477
                      refine l_step hE479 rfl (l_call (f := 25) (argv := [.slice b221 (((F_DualHomomorphism fp0 fp1 gp0 gp1 images).1).length) c222, .slice b133 (((F_s_DualHomomorphism fp0 fp1 gp0 gp1 images).1).length) c134]) hE479 (fun _ => cf_l_eqInt64S _ _) rfl rfl (d_l_eqInt64S b221 (((F_DualHomomorphism fp0 fp1 gp0 gp1 images).1).length) c222 ((F_DualHomomorphism fp0 fp1 gp0 gp1 images).1) b133 (((F_s_DualHomomorphism fp0 fp1 gp0 gp1 images).1).length) c134 ((F_s_DualHomomorphism fp0 fp1 gp0 gp1 images).1) w433 (St.rdO (i := 6) hS436 rfl) (St.rdO (i := 9) hS436 rfl)) ?_)
                      rintro _ w481 ⟨rfl, he485⟩ a482 hE483; clear hE479
                      have hS484 := St.go hS436 he485; clear hS436
                      refine q_step (v := .bool (!(decide (((F_DualHomomorphism fp0 fp1 gp0 gp1 images).1) = ((F_s_DualHomomorphism fp0 fp1 gp0 gp1 images).1))))) hE483 (y_not rfl) rfl rfl rfl ?_; intro a486 hE487; clear hE483
                      refine q_step (v := .bool (!(decide (((F_DualHomomorphism fp0 fp1 gp0 gp1 images).1) = ((F_s_DualHomomorphism fp0 fp1 gp0 gp1 images).1))))) hE487 (y_pick (b := false) rfl rfl) rfl rfl rfl ?_; intro a488 hE489; clear hE487
                      refine q_step (v := .bool (!(decide (((F_DualHomomorphism fp0 fp1 gp0 gp1 images).1) = ((F_s_DualHomomorphism fp0 fp1 gp0 gp1 images).1))))) hE489 (y_move rfl) rfl rfl rfl ?_; intro a490 hE491; clear hE489
                      rcases Bool.eq_false_or_eq_true (!(decide (((F_DualHomomorphism fp0 fp1 gp0 gp1 images).1) = ((F_s_DualHomomorphism fp0 fp1 gp0 gp1 images).1)))) with hb492 | hb492
                      ·
                        have hE493 := hE491; rw [hb492] at hE493; clear hE491
                        have ht494 := bn_t hb492
                        have hp495 := of_decide_eq_false ht494
                        refine q_skip hE493 rfl rfl rfl ?_; intro a496 hE497; clear hE493
                        refine q_skip hE497 rfl rfl rfl ?_; intro a498 hE499; clear hE497
                        refine q_skip hE499 rfl rfl rfl ?_; intro a500 hE501; clear hE499
                        refine q_step (v := .bool true) hE501 (y_pick (b := true) rfl rfl) rfl rfl rfl ?_; intro a502 hE503; clear hE501
                        refine c_nil ?_
                        have hE504 := hE503.sub (L' := [(2, .slice imagesA images.length imagesC), (3, .pointer (some ⟨b4, 0, none⟩)), (4, .pointer (some ⟨b10, 0, none⟩)), (8, .slice b133 (((F_s_DualHomomorphism fp0 fp1 gp0 gp1 images).1).length) c134), (9, .int .i64 ((F_s_DualHomomorphism fp0 fp1 gp0 gp1 images).2)), (13, .slice b221 (((F_DualHomomorphism fp0 fp1 gp0 gp1 images).1).length) c222), (101, .bool true)]) ⟨rfl, rfl, rfl, rfl, rfl, rfl, rfl, trivial⟩; clear hE503
                        refine p_tn ?_
                        have hE505 := hE504.sub (L' := [(2, .slice imagesA images.length imagesC), (3, .pointer (some ⟨b4, 0, none⟩)), (4, .pointer (some ⟨b10, 0, none⟩)), (8, .slice b133 (((F_s_DualHomomorphism fp0 fp1 gp0 gp1 images).1).length) c134), (9, .int .i64 ((F_s_DualHomomorphism fp0 fp1 gp0 gp1 images).2)), (13, .slice b221 (((F_DualHomomorphism fp0 fp1 gp0 gp1 images).1).length) c222), (101, .bool true)]) ⟨rfl, rfl, rfl, rfl, rfl, rfl, rfl, trivial⟩
                        have hS506 := (St.pick (Γ' := [.own 2 1 b203 ((images).length) c204 (marked images.length ((1 + (fp1.length : Int)) + (gp1.length : Int))), .own 2 1 b179 ((gp1).length) c180 (marked gp1.length (1 + (fp1.length : Int))), .own 2 1 b155 ((fp1).length) c156 (marked fp1.length 1), .own 2 1 b375 ((images).length) c376 images, .own 2 1 b343 ((gp1).length) c344 gp1, .own 2 1 b308 ((fp1).length) c309 fp1, .own 2 1 b221 (((F_DualHomomorphism fp0 fp1 gp0 gp1 images).1).length) c222 ((F_DualHomomorphism fp0 fp1 gp0 gp1 images).1), .blk b182 #[.int .i64 gp0, .slice b179 ((gp1).length) c180] 26, .blk b158 #[.int .i64 fp0, .slice b155 ((fp1).length) c156] 26, .own 2 1 b133 (((F_s_DualHomomorphism fp0 fp1 gp0 gp1 images).1).length) c134 ((F_s_DualHomomorphism fp0 fp1 gp0 gp1 images).1), .own 2 1 b124 ((images).length) c125 images, .own 2 1 b115 ((gp1).length) c116 gp1, .own 2 1 b106 ((fp1).length) c107 fp1, .rd 1 gp1A gp1.length gp1C gp1, .blk b10 #[.int .i64 gp0, .slice gp1A gp1.length gp1C] 24, .rd 1 fp1A fp1.length fp1C fp1, .blk b4 #[.int .i64 fp0, .slice fp1A fp1.length fp1C] 24, .rd 1 imagesA images.length imagesC images]) hS484 [0, 1, 2, 3, 4, 5, 6, 7, 8, 9, 10, 11, 12, 13, 14, 15, 16, 17] (by decide) rfl)
                        exact ⟨(by rw [hb492, hb448]; exact hE505), hS506⟩
                      ·
                        have hE507 := hE491; rw [hb492] at hE507; clear hE491
                        have ht508 := bn_f hb492
                        have hp509 := of_decide_eq_true ht508
                        refine q_step (v := .int .i64 ((F_DualHomomorphism fp0 fp1 gp0 gp1 images).2)) hE507 (y_move rfl) rfl rfl rfl ?_; intro a510 hE511; clear hE507
                        refine q_step (v := .int .i64 ((F_s_DualHomomorphism fp0 fp1 gp0 gp1 images).2)) hE511 (y_move rfl) rfl rfl rfl ?_; intro a512 hE513; clear hE511
                        refine q_step (v := .bool (!decide (((F_DualHomomorphism fp0 fp1 gp0 gp1 images).2) = ((F_s_DualHomomorphism fp0 fp1 gp0 gp1 images).2)))) hE513 (y_neq rfl rfl) rfl rfl rfl ?_; intro a514 hE515; clear hE513
                        refine q_step (v := .bool (!decide (((F_DualHomomorphism fp0 fp1 gp0 gp1 images).2) = ((F_s_DualHomomorphism fp0 fp1 gp0 gp1 images).2)))) hE515 (y_pick (b := false) rfl rfl) rfl rfl rfl ?_; intro a516 hE517; clear hE515
                        refine c_nil ?_
                        have hE518 := hE517.sub (L' := [(2, .slice imagesA images.length imagesC), (3, .pointer (some ⟨b4, 0, none⟩)), (4, .pointer (some ⟨b10, 0, none⟩)), (8, .slice b133 (((F_s_DualHomomorphism fp0 fp1 gp0 gp1 images).1).length) c134), (9, .int .i64 ((F_s_DualHomomorphism fp0 fp1 gp0 gp1 images).2)), (13, .slice b221 (((F_DualHomomorphism fp0 fp1 gp0 gp1 images).1).length) c222), (101, .bool (!decide (((F_DualHomomorphism fp0 fp1 gp0 gp1 images).2) = ((F_s_DualHomomorphism fp0 fp1 gp0 gp1 images).2))))]) ⟨rfl, rfl, rfl, rfl, rfl, rfl, rfl, trivial⟩; clear hE517
                        refine p_tn ?_
                        have hE519 := hE518.sub (L' := [(2, .slice imagesA images.length imagesC), (3, .pointer (some ⟨b4, 0, none⟩)), (4, .pointer (some ⟨b10, 0, none⟩)), (8, .slice b133 (((F_s_DualHomomorphism fp0 fp1 gp0 gp1 images).1).length) c134), (9, .int .i64 ((F_s_DualHomomorphism fp0 fp1 gp0 gp1 images).2)), (13, .slice b221 (((F_DualHomomorphism fp0 fp1 gp0 gp1 images).1).length) c222), (101, .bool (!decide (((F_DualHomomorphism fp0 fp1 gp0 gp1 images).2) = ((F_s_DualHomomorphism fp0 fp1 gp0 gp1 images).2))))]) ⟨rfl, rfl, rfl, rfl, rfl, rfl, rfl, trivial⟩
                        have hS520 := (St.pick (Γ' := [.own 2 1 b203 ((images).length) c204 (marked images.length ((1 + (fp1.length : Int)) + (gp1.length : Int))), .own 2 1 b179 ((gp1).length) c180 (marked gp1.length (1 + (fp1.length : Int))), .own 2 1 b155 ((fp1).length) c156 (marked fp1.length 1), .own 2 1 b375 ((images).length) c376 images, .own 2 1 b343 ((gp1).length) c344 gp1, .own 2 1 b308 ((fp1).length) c309 fp1, .own 2 1 b221 (((F_DualHomomorphism fp0 fp1 gp0 gp1 images).1).length) c222 ((F_DualHomomorphism fp0 fp1 gp0 gp1 images).1), .blk b182 #[.int .i64 gp0, .slice b179 ((gp1).length) c180] 26, .blk b158 #[.int .i64 fp0, .slice b155 ((fp1).length) c156] 26, .own 2 1 b133 (((F_s_DualHomomorphism fp0 fp1 gp0 gp1 images).1).length) c134 ((F_s_DualHomomorphism fp0 fp1 gp0 gp1 images).1), .own 2 1 b124 ((images).length) c125 images, .own 2 1 b115 ((gp1).length) c116 gp1, .own 2 1 b106 ((fp1).length) c107 fp1, .rd 1 gp1A gp1.length gp1C gp1, .blk b10 #[.int .i64 gp0, .slice gp1A gp1.length gp1C] 24, .rd 1 fp1A fp1.length fp1C fp1, .blk b4 #[.int .i64 fp0, .slice fp1A fp1.length fp1C] 24, .rd 1 imagesA images.length imagesC images]) hS484 [0, 1, 2, 3, 4, 5, 6, 7, 8, 9, 10, 11, 12, 13, 14, 15, 16, 17] (by decide) rfl)
                        exact ⟨(by rw [hb492, hb448]; exact hE519), hS520⟩
                  ·
                    rintro a521 w522 ⟨hE523, hS524⟩; clear hE441 hS436
                    refine c_cond hE523 rfl (fun ht525 => ?_) (fun ht525 => ?_)
                    ·
                      have hE526 := hE523; rw [ht525] at hE526; clear hE523
                      refine c_seq ?_
                      refine c_reg ?_
                      refine q_step (v := .bool false) hE526 (y_assign rfl) rfl rfl rfl ?_; intro a527 hE528; clear hE526
                      refine c_nil ?_
                      have hE529 := hE528.sub (L' := [(6, .bool false)]) ⟨rfl, trivial⟩; clear hE528
                      refine p_tn ?_
                      refine wp_ret ?_
                      refine p_tr ?_
                      have hF : F_l_FnExactDualHomomorphism fp0 fp1 gp0 gp1 images = false := by unfold F_l_FnExactDualHomomorphism; rw [ht525, ht387, ht355, ht320, ht283, ht82, ht55, ht26]; first | done | rfl
                      refine c_ret1 hE529 rfl rfl ?_
                      exact ⟨(by rw [hF]; first | done | rfl), hS524.ext⟩
                    ·
                      obtain ⟨ht530, ht531⟩ := bor_f ht525
                      have hp532 := of_decide_eq_false ht530
                      obtain ⟨ht533, ht534⟩ := bor_f ht531
                      have ht535 := bn_f ht533
                      have hp536 := of_decide_eq_true ht535
                      have ht537 := bn_f ht534
                      have hp538 := of_decide_eq_true ht537
                      have hE539 := hE523; rw [ht525] at hE539; clear hE523
                      refine wp_skip ?_
                      refine p_tn ?_
                      refine c_seq ?_
                      refine c_reg ?_
                      refine q_step (v := .int .i64 1) hE539 (y_assign rfl) rfl rfl rfl ?_; intro a540 hE541; clear hE539
                      refine c_nil ?_
                      have hE542 := hE541.sub (L' := [(2, .slice imagesA images.length imagesC), (3, .pointer (some ⟨b4, 0, none⟩)), (4, .pointer (some ⟨b10, 0, none⟩)), (8, .slice b133 (((F_s_DualHomomorphism fp0 fp1 gp0 gp1 images).1).length) c134), (9, .int .i64 ((F_s_DualHomomorphism fp0 fp1 gp0 gp1 images).2)), (13, .slice b221 (((F_DualHomomorphism fp0 fp1 gp0 gp1 images).1).length) c222), (16, .int .i64 1)]) ⟨rfl, rfl, rfl, rfl, rfl, rfl, rfl, trivial⟩; clear hE541
                      refine p_tn ?_
                      refine c_seq ?_
                      refine c_reg ?_
                      refine q_step (v := .slice b221 (((F_DualHomomorphism fp0 fp1 gp0 gp1 images).1).length) c222) hE542 (y_move rfl) rfl rfl rfl ?_; intro a543 hE544; clear hE542
                      refine q_step (v := .int .i64 1) hE544 (y_move rfl) rfl rfl rfl ?_; intro a545 hE546; clear hE544
                      have hS553 := (St.pick (Γ' := [.own 2 1 b221 (((F_DualHomomorphism fp0 fp1 gp0 gp1 images).1).length) c222 ((F_DualHomomorphism fp0 fp1 gp0 gp1 images).1), .own 2 1 b203 ((images).length) c204 (marked images.length ((1 + (fp1.length : Int)) + (gp1.length : Int))), .own 2 1 b179 ((gp1).length) c180 (marked gp1.length (1 + (fp1.length : Int))), .own 2 1 b155 ((fp1).length) c156 (marked fp1.length 1), .own 2 1 b375 ((images).length) c376 images, .own 2 1 b343 ((gp1).length) c344 gp1, .own 2 1 b308 ((fp1).length) c309 fp1, .blk b182 #[.int .i64 gp0, .slice b179 ((gp1).length) c180] 26, .blk b158 #[.int .i64 fp0, .slice b155 ((fp1).length) c156] 26, .own 2 1 b133 (((F_s_DualHomomorphism fp0 fp1 gp0 gp1 images).1).length) c134 ((F_s_DualHomomorphism fp0 fp1 gp0 gp1 images).1), .own 2 1 b124 ((images).length) c125 images, .own 2 1 b115 ((gp1).length) c116 gp1, .own 2 1 b106 ((fp1).length) c107 fp1, .rd 1 gp1A gp1.length gp1C gp1, .blk b10 #[.int .i64 gp0, .slice gp1A gp1.length gp1C] 24, .rd 1 fp1A fp1.length fp1C fp1, .blk b4 #[.int .i64 fp0, .slice fp1A fp1.length fp1C] 24, .rd 1 imagesA images.length imagesC images]) hS524 [6, 0, 1, 2, 3, 4, 5, 7, 8, 9, 10, 11, 12, 13, 14, 15, 16, 17] (by decide) rfl); clear hS524
                      refine l_step hE546 rfl (l_call (f := 26) (argv := [.slice b221 (((F_DualHomomorphism fp0 fp1 gp0 gp1 images).1).length) c222, .int .i64 1]) hE546 (fun _ => cf_l_markInt64S _ _) rfl rfl (d_l_markInt64S b221 (((F_DualHomomorphism fp0 fp1 gp0 gp1 images).1).length) c222 ((F_DualHomomorphism fp0 fp1 gp0 gp1 images).1) 1 w522 w [.own 2 1 b203 ((images).length) c204 (marked images.length ((1 + (fp1.length : Int)) + (gp1.length : Int))), .own 2 1 b179 ((gp1).length) c180 (marked gp1.length (1 + (fp1.length : Int))), .own 2 1 b155 ((fp1).length) c156 (marked fp1.length 1), .own 2 1 b375 ((images).length) c376 images, .own 2 1 b343 ((gp1).length) c344 gp1, .own 2 1 b308 ((fp1).length) c309 fp1, .blk b182 #[.int .i64 gp0, .slice b179 ((gp1).length) c180] 26, .blk b158 #[.int .i64 fp0, .slice b155 ((fp1).length) c156] 26, .own 2 1 b133 (((F_s_DualHomomorphism fp0 fp1 gp0 gp1 images).1).length) c134 ((F_s_DualHomomorphism fp0 fp1 gp0 gp1 images).1), .own 2 1 b124 ((images).length) c125 images, .own 2 1 b115 ((gp1).length) c116 gp1, .own 2 1 b106 ((fp1).length) c107 fp1, .rd 1 gp1A gp1.length gp1C gp1, .blk b10 #[.int .i64 gp0, .slice gp1A gp1.length gp1C] 24, .rd 1 fp1A fp1.length fp1C fp1, .blk b4 #[.int .i64 fp0, .slice fp1A fp1.length fp1C] 24, .rd 1 imagesA images.length imagesC images] hS553 (by first | omega | (simp only [marked_len]; omega)) (by first | omega | (simp only [marked_len]; omega)) (by first | omega | (simp only [marked_len]; omega))) ?_)
                      rintro _ w548 ⟨rfl, hS551⟩ a549 hE550; clear hE546 hS553
                      refine q_step (v := .int .i64 (1 + (((F_DualHomomorphism fp0 fp1 gp0 gp1 images).1).length : Int))) hE550 (y_assign rfl) rfl rfl rfl ?_; intro a554 hE555; clear hE550
                      refine c_nil ?_
                      have hE556 := hE555.sub (L' := [(2, .slice imagesA images.length imagesC), (3, .pointer (some ⟨b4, 0, none⟩)), (4, .pointer (some ⟨b10, 0, none⟩)), (8, .slice b133 (((F_s_DualHomomorphism fp0 fp1 gp0 gp1 images).1).length) c134), (9, .int .i64 ((F_s_DualHomomorphism fp0 fp1 gp0 gp1 images).2)), (13, .slice b221 (((F_DualHomomorphism fp0 fp1 gp0 gp1 images).1).length) c222), (16, .int .i64 (1 + (((F_DualHomomorphism fp0 fp1 gp0 gp1 images).1).length : Int)))]) ⟨rfl, rfl, rfl, rfl, rfl, rfl, rfl, trivial⟩; clear hE555
                      refine p_tn ?_
                      refine c_seq ?_
                      refine c_reg ?_
                      refine q_step (v := .int .i64 1) hE556 (y_assign rfl) rfl rfl rfl ?_; intro a557 hE558; clear hE556
                      refine c_nil ?_
                      have hE559 := hE558.sub (L' := [(2, .slice imagesA images.length imagesC), (3, .pointer (some ⟨b4, 0, none⟩)), (4, .pointer (some ⟨b10, 0, none⟩)), (8, .slice b133 (((F_s_DualHomomorphism fp0 fp1 gp0 gp1 images).1).length) c134), (9, .int .i64 ((F_s_DualHomomorphism fp0 fp1 gp0 gp1 images).2)), (13, .slice b221 (((F_DualHomomorphism fp0 fp1 gp0 gp1 images).1).length) c222), (16, .int .i64 (1 + (((F_DualHomomorphism fp0 fp1 gp0 gp1 images).1).length : Int))), (17, .int .i64 1)]) ⟨rfl, rfl, rfl, rfl, rfl, rfl, rfl, rfl, trivial⟩; clear hE558
                      refine p_tn ?_
                      refine c_seq ?_
                      refine c_reg ?_
                      refine q_step (v := .slice b221 (((F_DualHomomorphism fp0 fp1 gp0 gp1 images).1).length) c222) hE559 (y_move rfl) rfl rfl rfl ?_; intro a560 hE561; clear hE559
                      refine q_step (v := .int .i64 1) hE561 (y_move rfl) rfl rfl rfl ?_; intro a562 hE563; clear hE561
                      refine l_step hE563 rfl (l_call (f := 27) (argv := [.slice b221 (((F_DualHomomorphism fp0 fp1 gp0 gp1 images).1).length) c222, .int .i64 1]) hE563 (fun _ => cf_l_heldInt64S _ _) rfl rfl (c_l_heldInt64S b221 (((F_DualHomomorphism fp0 fp1 gp0 gp1 images).1).length) c222 (marked ((F_DualHomomorphism fp0 fp1 gp0 gp1 images).1).length 1) 1 w548 (St.rdO (i := 0) hS551 rfl) (by first | omega | (simp only [marked_len]; omega)) (by first | omega | (simp only [marked_len]; omega)) (by first | omega | (simp only [marked_len]; omega))) ?_)
                      rintro _ w565 ⟨rfl, he569⟩ a566 hE567; clear hE563
                      have hS568 := St.go hS551 he569; clear hS551
                      refine q_step (v := .int .i64 (F_l_heldInt64S (marked ((F_DualHomomorphism fp0 fp1 gp0 gp1 images).1).length 1) 1)) hE567 (y_assign rfl) rfl rfl rfl ?_; intro a570 hE571; clear hE567
                      refine c_nil ?_
                      have hE572 := hE571.sub (L' := [(2, .slice imagesA images.length imagesC), (3, .pointer (some ⟨b4, 0, none⟩)), (4, .pointer (some ⟨b10, 0, none⟩)), (8, .slice b133 (((F_s_DualHomomorphism fp0 fp1 gp0 gp1 images).1).length) c134), (9, .int .i64 ((F_s_DualHomomorphism fp0 fp1 gp0 gp1 images).2)), (13, .slice b221 (((F_DualHomomorphism fp0 fp1 gp0 gp1 images).1).length) c222), (16, .int .i64 (1 + (((F_DualHomomorphism fp0 fp1 gp0 gp1 images).1).length : Int))), (17, .int .i64 (F_l_heldInt64S (marked ((F_DualHomomorphism fp0 fp1 gp0 gp1 images).1).length 1) 1))]) ⟨rfl, rfl, rfl, rfl, rfl, rfl, rfl, rfl, trivial⟩; clear hE571
                      refine p_tn ?_
                      refine c_seq ?_
                      refine c_seq ?_
                      refine c_reg ?_
                      refine q_step (v := .int .i64 (F_l_heldInt64S (marked ((F_DualHomomorphism fp0 fp1 gp0 gp1 images).1).length 1) 1)) hE572 (y_move rfl) rfl rfl rfl ?_; intro a573 hE574; clear hE572
                      refine q_step (v := .bool (decide ((F_l_heldInt64S (marked ((F_DualHomomorphism fp0 fp1 gp0 gp1 images).1).length 1) 1) < 0))) hE574 (y_lss rfl rfl) rfl rfl rfl ?_; intro a575 hE576; clear hE574
                      refine c_nil ?_
                      have hE577 := hE576.sub (L' := [(2, .slice imagesA images.length imagesC), (3, .pointer (some ⟨b4, 0, none⟩)), (4, .pointer (some ⟨b10, 0, none⟩)), (8, .slice b133 (((F_s_DualHomomorphism fp0 fp1 gp0 gp1 images).1).length) c134), (9, .int .i64 ((F_s_DualHomomorphism fp0 fp1 gp0 gp1 images).2)), (13, .slice b221 (((F_DualHomomorphism fp0 fp1 gp0 gp1 images).1).length) c222), (16, .int .i64 (1 + (((F_DualHomomorphism fp0 fp1 gp0 gp1 images).1).length : Int))), (17, .int .i64 (F_l_heldInt64S (marked ((F_DualHomomorphism fp0 fp1 gp0 gp1 images).1).length 1) 1)), (109, .bool (decide ((F_l_heldInt64S (marked ((F_DualHomomorphism fp0 fp1 gp0 gp1 images).1).length 1) 1) < 0)))]) ⟨rfl, rfl, rfl, rfl, rfl, rfl, rfl, rfl, rfl, trivial⟩; clear hE576
                      refine p_tn ?_
                      refine c_cond hE577 rfl (fun ht578 => ?_) (fun ht578 => ?_)
                      ·
                        have hp579 := of_decide_eq_true ht578
                        have hE580 := hE577; rw [ht578] at hE580; clear hE577
                        refine c_seq ?_
                        refine c_reg ?_
                        refine q_step (v := .bool false) hE580 (y_assign rfl) rfl rfl rfl ?_; intro a581 hE582; clear hE580
                        refine c_nil ?_
                        have hE583 := hE582.sub (L' := [(6, .bool false)]) ⟨rfl, trivial⟩; clear hE582
                        refine p_tn ?_
                        refine wp_ret ?_
                        refine p_tr ?_
                        have hF : F_l_FnExactDualHomomorphism fp0 fp1 gp0 gp1 images = false := by unfold F_l_FnExactDualHomomorphism; rw [ht578, ht525, ht387, ht355, ht320, ht283, ht82, ht55, ht26]; first | done | rfl
                        refine c_ret1 hE583 rfl rfl ?_
                        exact ⟨(by rw [hF]; first | done | rfl), hS568.ext⟩
                      ·
                        have hp584 := of_decide_eq_false ht578
                        have hE585 := hE577; rw [ht578] at hE585; clear hE577
                        refine wp_skip ?_
                        refine p_tn ?_
                        refine c_seq ?_
                        refine c_seq ?_
                        refine c_reg ?_
                        refine q_step (v := .int .i64 (F_l_heldInt64S (marked ((F_DualHomomorphism fp0 fp1 gp0 gp1 images).1).length 1) 1)) hE585 (y_move rfl) rfl rfl rfl ?_; intro a586 hE587; clear hE585
                        refine q_step (v := .int .i64 (1 + (((F_DualHomomorphism fp0 fp1 gp0 gp1 images).1).length : Int))) hE587 (y_move rfl) rfl rfl rfl ?_; intro a588 hE589; clear hE587
                        refine q_step (v := .bool (!decide ((F_l_heldInt64S (marked ((F_DualHomomorphism fp0 fp1 gp0 gp1 images).1).length 1) 1) = (1 + (((F_DualHomomorphism fp0 fp1 gp0 gp1 images).1).length : Int))))) hE589 (y_neq rfl rfl) rfl rfl rfl ?_; intro a590 hE591; clear hE589
                        refine c_nil ?_
                        have hE592 := hE591.sub (L' := [(2, .slice imagesA images.length imagesC), (3, .pointer (some ⟨b4, 0, none⟩)), (4, .pointer (some ⟨b10, 0, none⟩)), (8, .slice b133 (((F_s_DualHomomorphism fp0 fp1 gp0 gp1 images).1).length) c134), (9, .int .i64 ((F_s_DualHomomorphism fp0 fp1 gp0 gp1 images).2)), (13, .slice b221 (((F_DualHomomorphism fp0 fp1 gp0 gp1 images).1).length) c222), (16, .int .i64 (1 + (((F_DualHomomorphism fp0 fp1 gp0 gp1 images).1).length : Int))), (112, .bool (!decide ((F_l_heldInt64S (marked ((F_DualHomomorphism fp0 fp1 gp0 gp1 images).1).length 1) 1) = (1 + (((F_DualHomomorphism fp0 fp1 gp0 gp1 images).1).length : Int)))))]) ⟨rfl, rfl, rfl, rfl, rfl, rfl, rfl, rfl, trivial⟩; clear hE591
                        refine p_tn ?_
                        refine c_cond hE592 rfl (fun ht593 => ?_) (fun ht593 => ?_)
                        ·
                          have ht594 := bn_t ht593
                          have hp595 := of_decide_eq_false ht594
                          have hE596 := hE592; rw [ht593] at hE596; clear hE592
                          refine c_seq ?_
                          refine c_reg ?_
                          refine q_step (v := .bool false) hE596 (y_assign rfl) rfl rfl rfl ?_; intro a597 hE598; clear hE596
                          refine c_nil ?_
                          have hE599 := hE598.sub (L' := [(6, .bool false)]) ⟨rfl, trivial⟩; clear hE598
                          refine p_tn ?_
                          refine wp_ret ?_
                          refine p_tr ?_
                          have hF : F_l_FnExactDualHomomorphism fp0 fp1 gp0 gp1 images = false := by unfold F_l_FnExactDualHomomorphism; rw [ht593, ht578, ht525, ht387, ht355, ht320, ht283, ht82, ht55, ht26]; first | done | rfl
                          refine c_ret1 hE599 rfl rfl ?_
                          exact ⟨(by rw [hF]; first | done | rfl), hS568.ext⟩
                        ·
                          have ht600 := bn_f ht593
                          have hp601 := of_decide_eq_true ht600
                          have hE602 := hE592; rw [ht593] at hE602; clear hE592
                          refine wp_skip ?_
                          refine p_tn ?_
                          refine c_seq ?_
                          refine d_start (fun w' => w'.heap[b4]? = some (.cells #[.int .i64 fp0, .slice fp1A fp1.length fp1C] 24 (0, 0)) ∧ w'.heap[b10]? = some (.cells #[.int .i64 gp0, .slice gp1A gp1.length gp1C] 24 (0, 0)) ∧ True) [0, 2] 12 (by kernel_rfl) rfl ?_
                          intro w603 he604; have hS605 := St.go hS568 he604; clear hS568
                          refine d_take (v := .agg #[.int .i64 fp0, .slice fp1A fp1.length fp1C]) 0 rfl hE602 ⟨(St.row (i := 16) hS605 rfl _ (Ext.refl _)), (St.row (i := 14) hS605 rfl _ (Ext.refl _)), trivial⟩ (y_loadS Try.underlying24 rfl (by kernel_rfl) rfl (fun _ h => h.1)) rfl rfl (by kernel_rfl) (by kernel_rfl) (by kernel_rfl) rfl rfl (fun _ _ _ h => h) ?_; intro a606 hE607; clear hE602
                          refine d_take (v := .agg #[.int .i64 gp0, .slice gp1A gp1.length gp1C]) 2 rfl hE607 ⟨(St.row (i := 16) hS605 rfl _ (Ext.refl _)), (St.row (i := 14) hS605 rfl _ (Ext.refl _)), trivial⟩ (y_loadS Try.underlying24 rfl (by kernel_rfl) rfl (fun _ h => h.2.1)) rfl rfl (by kernel_rfl) (by kernel_rfl) (by kernel_rfl) rfl rfl (fun _ _ _ h => h) ?_; intro a608 hE609; clear hE607
                          refine d_pure (v := .slice imagesA images.length imagesC) 4 rfl hE609 (y_move rfl) rfl (by kernel_rfl) (by kernel_rfl) (by kernel_rfl) rfl rfl (fun _ _ _ h => h) ?_; intro a610 hE611; clear hE609
                          refine d_only 1 (by kernel_rfl) rfl hE611 rfl (l_call (f := 17) (argv := [.agg #[.int .i64 fp0, .slice fp1A fp1.length fp1C]]) hE611 (fun _ => cf_l_toFrame _ _) rfl rfl (d_l_toFrame fp0 fp1A fp1.length fp1C fp1 w603 (St.rdR (i := 15) hS605 rfl) (by first | omega | (simp only [marked_len]; omega))) ?_)
                          rintro _ w613 ⟨b618, c619, rfl, ho620, he617⟩ a614 hE615; clear hE611
                          have hS616 := St.own hS605 he617 ho620; clear hS605
                          refine ⟨fun _ _ => ⟨(St.row (i := 17) hS616 rfl _ (Ext.refl _)), (St.row (i := 15) hS616 rfl _ (Ext.refl _)), trivial⟩, ?_⟩
                          refine d_only 3 (by kernel_rfl) rfl hE615 rfl (l_call (f := 17) (argv := [.agg #[.int .i64 gp0, .slice gp1A gp1.length gp1C]]) hE615 (fun _ => cf_l_toFrame _ _) rfl rfl (d_l_toFrame gp0 gp1A gp1.length gp1C gp1 w613 (St.rdR (i := 14) hS616 rfl) (by first | omega | (simp only [marked_len]; omega))) ?_)
                          rintro _ w622 ⟨b627, c628, rfl, ho629, he626⟩ a623 hE624; clear hE615
                          have hS625 := St.own hS616 he626 ho629; clear hS616
                          refine ⟨fun _ _ => ⟨(St.row (i := 18) hS625 rfl _ (Ext.refl _)), (St.row (i := 16) hS625 rfl _ (Ext.refl _)), trivial⟩, ?_⟩
                          refine d_only 5 (by kernel_rfl) rfl hE624 rfl (l_call (f := 23) (argv := [.slice imagesA images.length imagesC]) hE624 (fun _ => cf_l_toInt64S _ _) rfl rfl (d_l_toInt64S imagesA images.length imagesC images w622 (St.rdR (i := 19) hS625 rfl) (by first | omega | (simp only [marked_len]; omega))) ?_)
                          rintro _ w631 ⟨b636, c637, rfl, ho638, he635⟩ a632 hE633; clear hE624
                          have hS634 := St.own hS625 he635 ho638; clear hS625
                          refine ⟨fun _ _ => ⟨(St.row (i := 19) hS634 rfl _ (Ext.refl _)), (St.row (i := 17) hS634 rfl _ (Ext.refl _)), trivial⟩, ?_⟩
                          refine d_only 6 (by kernel_rfl) rfl hE633 rfl (l_call (f := 31) (argv := [.agg #[.int .i64 fp0, .slice b618 ((fp1).length) c619], .agg #[.int .i64 gp0, .slice b627 ((gp1).length) c628], .slice b636 ((images).length) c637]) hE633 (fun _ => cf_DualHomomorphism _ _) rfl rfl (c_DualHomomorphism fp0 b618 ((fp1).length) c619 fp1 gp0 b627 ((gp1).length) c628 gp1 b636 ((images).length) c637 images w631 (St.rdO (i := 2) hS634 rfl) (St.rdO (i := 1) hS634 rfl) (St.rdO (i := 0) hS634 rfl)) ?_)
                          rintro _ w640 ⟨b645, c646, rfl, ho647, he644⟩ a641 hE642; clear hE633
                          have hf648 := DualHomomorphism_len fp0 fp1 gp0 gp1 images
                          have hS643 := St.own hS634 he644 ho647; clear hS634
                          refine ⟨fun _ _ => ⟨(St.row (i := 20) hS643 rfl _ (Ext.refl _)), (St.row (i := 18) hS643 rfl _ (Ext.refl _)), trivial⟩, ?_⟩
                          refine d_pure (v := .tuple #[.slice b645 (((F_DualHomomorphism fp0 fp1 gp0 gp1 images).1).length) c646, .int .i64 ((F_DualHomomorphism fp0 fp1 gp0 gp1 images).2)]) 7 rfl hE642 (y_move rfl) rfl (by kernel_rfl) (by kernel_rfl) (by kernel_rfl) rfl rfl (fun _ _ _ h => h) ?_; intro a649 hE650; clear hE642
                          refine d_pure (v := .slice b645 (((F_DualHomomorphism fp0 fp1 gp0 gp1 images).1).length) c646) 8 rfl hE650 (y_extract rfl rfl) rfl (by kernel_rfl) (by kernel_rfl) (by kernel_rfl) rfl rfl (fun _ _ _ h => h) ?_; intro a651 hE652; clear hE650
                          refine d_pure (v := .int .i64 ((F_DualHomomorphism fp0 fp1 gp0 gp1 images).2)) 9 rfl hE652 (y_extract rfl rfl) rfl (by kernel_rfl) (by kernel_rfl) (by kernel_rfl) rfl rfl (fun _ _ _ h => h) ?_; intro a653 hE654; clear hE652
                          refine d_pure (v := .slice b645 (((F_DualHomomorphism fp0 fp1 gp0 gp1 images).1).length) c646) 10 rfl hE654 (y_assign rfl) rfl (by kernel_rfl) (by kernel_rfl) (by kernel_rfl) rfl rfl (fun _ _ _ h => h) ?_; intro a655 hE656; clear hE654
                          refine d_pure (v := .int .i64 ((F_DualHomomorphism fp0 fp1 gp0 gp1 images).2)) 11 rfl hE656 (y_assign rfl) rfl (by kernel_rfl) (by kernel_rfl) (by kernel_rfl) rfl rfl (fun _ _ _ h => h) ?_; intro a657 hE658; clear hE656
                          refine d_done (by kernel_rfl) ?_
                          have hE659 := hE658.sub (L' := [(8, .slice b133 (((F_s_DualHomomorphism fp0 fp1 gp0 gp1 images).1).length) c134), (9, .int .i64 ((F_s_DualHomomorphism fp0 fp1 gp0 gp1 images).2)), (13, .slice b221 (((F_DualHomomorphism fp0 fp1 gp0 gp1 images).1).length) c222), (16, .int .i64 (1 + (((F_DualHomomorphism fp0 fp1 gp0 gp1 images).1).length : Int))), (18, .slice b645 (((F_DualHomomorphism fp0 fp1 gp0 gp1 images).1).length) c646), (19, .int .i64 ((F_DualHomomorphism fp0 fp1 gp0 gp1 images).2))]) ⟨rfl, rfl, rfl, rfl, rfl, rfl, trivial⟩; clear hE658
                          refine p_tn ?_
                          refine c_seq ?_
                          refine c_cut (fun a' w' => E a' 140 [(13, .slice b221 (((F_DualHomomorphism fp0 fp1 gp0 gp1 images).1).length) c222), (16, .int .i64 (1 + (((F_DualHomomorphism fp0 fp1 gp0 gp1 images).1).length : Int))), (131, .bool ((!(decide (((F_DualHomomorphism fp0 fp1 gp0 gp1 images).1) = ((F_s_DualHomomorphism fp0 fp1 gp0 gp1 images).1)))) || (!decide (((F_DualHomomorphism fp0 fp1 gp0 gp1 images).2) = ((F_s_DualHomomorphism fp0 fp1 gp0 gp1 images).2)))))] ∧ St w w' [.own 2 1 b645 (((F_DualHomomorphism fp0 fp1 gp0 gp1 images).1).length) c646 ((F_DualHomomorphism fp0 fp1 gp0 gp1 images).1), .own 2 1 b636 ((images).length) c637 images, .own 2 1 b627 ((gp1).length) c628 gp1, .own 2 1 b618 ((fp1).length) c619 fp1, .own 2 1 b221 (((F_DualHomomorphism fp0 fp1 gp0 gp1 images).1).length) c222 (marked ((F_DualHomomorphism fp0 fp1 gp0 gp1 images).1).length 1), .own 2 1 b203 ((images).length) c204 (marked images.length ((1 + (fp1.length : Int)) + (gp1.length : Int))), .own 2 1 b179 ((gp1).length) c180 (marked gp1.length (1 + (fp1.length : Int))), .own 2 1 b155 ((fp1).length) c156 (marked fp1.length 1), .own 2 1 b375 ((images).length) c376 images, .own 2 1 b343 ((gp1).length) c344 gp1, .own 2 1 b308 ((fp1).length) c309 fp1, .blk b182 #[.int .i64 gp0, .slice b179 ((gp1).length) c180] 26, .blk b158 #[.int .i64 fp0, .slice b155 ((fp1).length) c156] 26, .own 2 1 b133 (((F_s_DualHomomorphism fp0 fp1 gp0 gp1 images).1).length) c134 ((F_s_DualHomomorphism fp0 fp1 gp0 gp1 images).1), .own 2 1 b124 ((images).length) c125 images, .own 2 1 b115 ((gp1).length) c116 gp1, .own 2 1 b106 ((fp1).length) c107 fp1, .rd 1 gp1A gp1.length gp1C gp1, .blk b10 #[.int .i64 gp0, .slice gp1A gp1.length gp1C] 24, .rd 1 fp1A fp1.length fp1C fp1, .blk b4 #[.int .i64 fp0, .slice fp1A fp1.length fp1C] 24, .rd 1 imagesA images.length imagesC images]) ?_ ?_
                          ·
                            refine c_reg ?_
                            refine q_step (v := .slice b645 (((F_DualHomomorphism fp0 fp1 gp0 gp1 images).1).length) c646) hE659 (y_move rfl) rfl rfl rfl ?_; intro a660 hE661; clear hE659
                            refine q_step (v := .slice b133 (((F_s_DualHomomorphism fp0 fp1 gp0 gp1 images).1).length) c134) hE661 (y_move rfl) rfl rfl rfl ?_; intro a662 hE663; clear hE661
                            refine l_step hE663 rfl (l_call (f := 25) (argv := [.slice b645 (((F_DualHomomorphism fp0 fp1 gp0 gp1 images).1).length) c646, .slice b133 (((F_s_DualHomomorphism fp0 fp1 gp0 gp1 images).1).length) c134]) hE663 (fun _ => cf_l_eqInt64S _ _) rfl rfl (d_l_eqInt64S b645 (((F_DualHomomorphism fp0 fp1 gp0 gp1 images).1).length) c646 ((F_DualHomomorphism fp0 fp1 gp0 gp1 images).1) b133 (((F_s_DualHomomorphism fp0 fp1 gp0 gp1 images).1).length) c134 ((F_s_DualHomomorphism fp0 fp1 gp0 gp1 images).1) w640 (St.rdO (i := 0) hS643 rfl) (St.rdO (i := 13) hS643 rfl)) ?_)
                            rintro _ w665 ⟨rfl, he669⟩ a666 hE667; clear hE663
                            have hS668 := St.go hS643 he669; clear hS643
                            refine q_step (v := .bool (!(decide (((F_DualHomomorphism fp0 fp1 gp0 gp1 images).1) = ((F_s_DualHomomorphism fp0 fp1 gp0 gp1 images).1))))) hE667 (y_not rfl) rfl rfl rfl ?_; intro a670 hE671; clear hE667
                            refine q_step (v := .bool (!(decide (((F_DualHomomorphism fp0 fp1 gp0 gp1 images).1) = ((F_s_DualHomomorphism fp0 fp1 gp0 gp1 images).1))))) hE671 (y_move rfl) rfl rfl rfl ?_; intro a672 hE673; clear hE671
                            rcases Bool.eq_false_or_eq_true (!(decide (((F_DualHomomorphism fp0 fp1 gp0 gp1 images).1) = ((F_s_DualHomomorphism fp0 fp1 gp0 gp1 images).1)))) with hb674 | hb674
                            ·
                              have hE675 := hE673; rw [hb674] at hE675; clear hE673
                              have ht676 := bn_t hb674
                              have hp677 := of_decide_eq_false ht676
                              refine q_skip hE675 rfl rfl rfl ?_; intro a678 hE679; clear hE675
                              refine q_skip hE679 rfl rfl rfl ?_; intro a680 hE681; clear hE679
                              refine q_skip hE681 rfl rfl rfl ?_; intro a682 hE683; clear hE681
                              refine q_step (v := .bool true) hE683 (y_pick (b := true) rfl rfl) rfl rfl rfl ?_; intro a684 hE685; clear hE683
                              refine c_nil ?_
                              have hE686 := hE685.sub (L' := [(13, .slice b221 (((F_DualHomomorphism fp0 fp1 gp0 gp1 images).1).length) c222), (16, .int .i64 (1 + (((F_DualHomomorphism fp0 fp1 gp0 gp1 images).1).length : Int))), (131, .bool true)]) ⟨rfl, rfl, rfl, trivial⟩; clear hE685
                              refine p_tn ?_
                              have hE687 := hE686.sub (L' := [(13, .slice b221 (((F_DualHomomorphism fp0 fp1 gp0 gp1 images).1).length) c222), (16, .int .i64 (1 + (((F_DualHomomorphism fp0 fp1 gp0 gp1 images).1).length : Int))), (131, .bool true)]) ⟨rfl, rfl, rfl, trivial⟩
                              have hS688 := (St.pick (Γ' := [.own 2 1 b645 (((F_DualHomomorphism fp0 fp1 gp0 gp1 images).1).length) c646 ((F_DualHomomorphism fp0 fp1 gp0 gp1 images).1), .own 2 1 b636 ((images).length) c637 images, .own 2 1 b627 ((gp1).length) c628 gp1, .own 2 1 b618 ((fp1).length) c619 fp1, .own 2 1 b221 (((F_DualHomomorphism fp0 fp1 gp0 gp1 images).1).length) c222 (marked ((F_DualHomomorphism fp0 fp1 gp0 gp1 images).1).length 1), .own 2 1 b203 ((images).length) c204 (marked images.length ((1 + (fp1.length : Int)) + (gp1.length : Int))), .own 2 1 b179 ((gp1).length) c180 (marked gp1.length (1 + (fp1.length : Int))), .own 2 1 b155 ((fp1).length) c156 (marked fp1.length 1), .own 2 1 b375 ((images).length) c376 images, .own 2 1 b343 ((gp1).length) c344 gp1, .own 2 1 b308 ((fp1).length) c309 fp1, .blk b182 #[.int .i64 gp0, .slice b179 ((gp1).length) c180] 26, .blk b158 #[.int .i64 fp0, .slice b155 ((fp1).length) c156] 26, .own 2 1 b133 (((F_s_DualHomomorphism fp0 fp1 gp0 gp1 images).1).length) c134 ((F_s_DualHomomorphism fp0 fp1 gp0 gp1 images).1), .own 2 1 b124 ((images).length) c125 images, .own 2 1 b115 ((gp1).length) c116 gp1, .own 2 1 b106 ((fp1).length) c107 fp1, .rd 1 gp1A gp1.length gp1C gp1, .blk b10 #[.int .i64 gp0, .slice gp1A gp1.length gp1C] 24, .rd 1 fp1A fp1.length fp1C fp1, .blk b4 #[.int .i64 fp0, .slice fp1A fp1.length fp1C] 24, .rd 1 imagesA images.length imagesC images]) hS668 [0, 1, 2, 3, 4, 5, 6, 7, 8, 9, 10, 11, 12, 13, 14, 15, 16, 17, 18, 19, 20, 21] (by decide) rfl)
                              exact ⟨(by rw [hb674]; exact hE687), hS688⟩
                            ·
                              have hE689 := hE673; rw [hb674] at hE689; clear hE673
                              have ht690 := bn_f hb674
                              have hp691 := of_decide_eq_true ht690
                              refine q_step (v := .int .i64 ((F_DualHomomorphism fp0 fp1 gp0 gp1 images).2)) hE689 (y_move rfl) rfl rfl rfl ?_; intro a692 hE693; clear hE689
                              refine q_step (v := .int .i64 ((F_s_DualHomomorphism fp0 fp1 gp0 gp1 images).2)) hE693 (y_move rfl) rfl rfl rfl ?_; intro a694 hE695; clear hE693
                              refine q_step (v := .bool (!decide (((F_DualHomomorphism fp0 fp1 gp0 gp1 images).2) = ((F_s_DualHomomorphism fp0 fp1 gp0 gp1 images).2)))) hE695 (y_neq rfl rfl) rfl rfl rfl ?_; intro a696 hE697; clear hE695
                              refine q_step (v := .bool (!decide (((F_DualHomomorphism fp0 fp1 gp0 gp1 images).2) = ((F_s_DualHomomorphism fp0 fp1 gp0 gp1 images).2)))) hE697 (y_pick (b := false) rfl rfl) rfl rfl rfl ?_; intro a698 hE699; clear hE697
                              refine c_nil ?_
                              have hE700 := hE699.sub (L' := [(13, .slice b221 (((F_DualHomomorphism fp0 fp1 gp0 gp1 images).1).length) c222), (16, .int .i64 (1 + (((F_DualHomomorphism fp0 fp1 gp0 gp1 images).1).length : Int))), (131, .bool (!decide (((F_DualHomomorphism fp0 fp1 gp0 gp1 images).2) = ((F_s_DualHomomorphism fp0 fp1 gp0 gp1 images).2))))]) ⟨rfl, rfl, rfl, trivial⟩; clear hE699
                              refine p_tn ?_
                              have hE701 := hE700.sub (L' := [(13, .slice b221 (((F_DualHomomorphism fp0 fp1 gp0 gp1 images).1).length) c222), (16, .int .i64 (1 + (((F_DualHomomorphism fp0 fp1 gp0 gp1 images).1).length : Int))), (131, .bool (!decide (((F_DualHomomorphism fp0 fp1 gp0 gp1 images).2) = ((F_s_DualHomomorphism fp0 fp1 gp0 gp1 images).2))))]) ⟨rfl, rfl, rfl, trivial⟩
                              have hS702 := (St.pick (Γ' := [.own 2 1 b645 (((F_DualHomomorphism fp0 fp1 gp0 gp1 images).1).length) c646 ((F_DualHomomorphism fp0 fp1 gp0 gp1 images).1), .own 2 1 b636 ((images).length) c637 images, .own 2 1 b627 ((gp1).length) c628 gp1, .own 2 1 b618 ((fp1).length) c619 fp1, .own 2 1 b221 (((F_DualHomomorphism fp0 fp1 gp0 gp1 images).1).length) c222 (marked ((F_DualHomomorphism fp0 fp1 gp0 gp1 images).1).length 1), .own 2 1 b203 ((images).length) c204 (marked images.length ((1 + (fp1.length : Int)) + (gp1.length : Int))), .own 2 1 b179 ((gp1).length) c180 (marked gp1.length (1 + (fp1.length : Int))), .own 2 1 b155 ((fp1).length) c156 (marked fp1.length 1), .own 2 1 b375 ((images).length) c376 images, .own 2 1 b343 ((gp1).length) c344 gp1, .own 2 1 b308 ((fp1).length) c309 fp1, .blk b182 #[.int .i64 gp0, .slice b179 ((gp1).length) c180] 26, .blk b158 #[.int .i64 fp0, .slice b155 ((fp1).length) c156] 26, .own 2 1 b133 (((F_s_DualHomomorphism fp0 fp1 gp0 gp1 images).1).length) c134 ((F_s_DualHomomorphism fp0 fp1 gp0 gp1 images).1), .own 2 1 b124 ((images).length) c125 images, .own 2 1 b115 ((gp1).length) c116 gp1, .own 2 1 b106 ((fp1).length) c107 fp1, .rd 1 gp1A gp1.length gp1C gp1, .blk b10 #[.int .i64 gp0, .slice gp1A gp1.length gp1C] 24, .rd 1 fp1A fp1.length fp1C fp1, .blk b4 #[.int .i64 fp0, .slice fp1A fp1.length fp1C] 24, .rd 1 imagesA images.length imagesC images]) hS668 [0, 1, 2, 3, 4, 5, 6, 7, 8, 9, 10, 11, 12, 13, 14, 15, 16, 17, 18, 19, 20, 21] (by decide) rfl)
                              exact ⟨(by rw [hb674]; exact hE701), hS702⟩
                          ·
                            rintro a703 w704 ⟨hE705, hS706⟩; clear hE659 hS643
                            have hE707 := hE705; rw [ht283] at hE707; clear hE705
                            refine c_false hE707 rfl ?_
                            refine wp_skip ?_
                            refine p_tn ?_
                            refine c_seq ?_
                            refine c_reg ?_
                            refine q_step (v := .int .i64 1) hE707 (y_assign rfl) rfl rfl rfl ?_; intro a708 hE709; clear hE707
                            refine c_nil ?_
                            have hE710 := hE709.sub (L' := [(13, .slice b221 (((F_DualHomomorphism fp0 fp1 gp0 gp1 images).1).length) c222), (16, .int .i64 (1 + (((F_DualHomomorphism fp0 fp1 gp0 gp1 images).1).length : Int))), (17, .int .i64 1)]) ⟨rfl, rfl, rfl, trivial⟩; clear hE709
                            refine p_tn ?_
                            refine c_seq ?_
                            refine c_reg ?_
                            refine q_step (v := .slice b221 (((F_DualHomomorphism fp0 fp1 gp0 gp1 images).1).length) c222) hE710 (y_move rfl) rfl rfl rfl ?_; intro a711 hE712; clear hE710
                            refine q_step (v := .int .i64 1) hE712 (y_move rfl) rfl rfl rfl ?_; intro a713 hE714; clear hE712
                            refine l_step hE714 rfl (l_call (f := 27) (argv := [.slice b221 (((F_DualHomomorphism fp0 fp1 gp0 gp1 images).1).length) c222, .int .i64 1]) hE714 (fun _ => cf_l_heldInt64S _ _) rfl rfl (c_l_heldInt64S b221 (((F_DualHomomorphism fp0 fp1 gp0 gp1 images).1).length) c222 (marked ((F_DualHomomorphism fp0 fp1 gp0 gp1 images).1).length 1) 1 w704 (St.rdO (i := 4) hS706 rfl) (by first | omega | (simp only [marked_len]; omega)) (by first | omega | (simp only [marked_len]; omega)) (by first | omega | (simp only [marked_len]; omega))) ?_)
                            rintro _ w716 ⟨rfl, he720⟩ a717 hE718; clear hE714
                            have hS719 := St.go hS706 he720; clear hS706
                            refine q_step (v := .int .i64 (F_l_heldInt64S (marked ((F_DualHomomorphism fp0 fp1 gp0 gp1 images).1).length 1) 1)) hE718 (y_assign rfl) rfl rfl rfl ?_; intro a721 hE722; clear hE718
                            refine c_nil ?_
                            have hE723 := hE722.sub (L' := [(16, .int .i64 (1 + (((F_DualHomomorphism fp0 fp1 gp0 gp1 images).1).length : Int))), (17, .int .i64 (F_l_heldInt64S (marked ((F_DualHomomorphism fp0 fp1 gp0 gp1 images).1).length 1) 1))]) ⟨rfl, rfl, trivial⟩; clear hE722
                            refine p_tn ?_
                            refine c_seq ?_
                            refine c_seq ?_
                            refine c_reg ?_
                            refine q_step (v := .int .i64 (F_l_heldInt64S (marked ((F_DualHomomorphism fp0 fp1 gp0 gp1 images).1).length 1) 1)) hE723 (y_move rfl) rfl rfl rfl ?_; intro a724 hE725; clear hE723
                            refine q_step (v := .bool (decide ((F_l_heldInt64S (marked ((F_DualHomomorphism fp0 fp1 gp0 gp1 images).1).length 1) 1) < 0))) hE725 (y_lss rfl rfl) rfl rfl rfl ?_; intro a726 hE727; clear hE725
                            refine c_nil ?_
                            have hE728 := hE727.sub (L' := [(16, .int .i64 (1 + (((F_DualHomomorphism fp0 fp1 gp0 gp1 images).1).length : Int))), (17, .int .i64 (F_l_heldInt64S (marked ((F_DualHomomorphism fp0 fp1 gp0 gp1 images).1).length 1) 1)), (136, .bool (decide ((F_l_heldInt64S (marked ((F_DualHomomorphism fp0 fp1 gp0 gp1 images).1).length 1) 1) < 0)))]) ⟨rfl, rfl, rfl, trivial⟩; clear hE727
                            refine p_tn ?_
                            have hE729 := hE728; rw [ht578] at hE729; clear hE728
                            refine c_false hE729 rfl ?_
                            refine wp_skip ?_
                            refine p_tn ?_
                            refine c_seq ?_
                            refine c_seq ?_
                            refine c_reg ?_
                            refine q_step (v := .int .i64 (F_l_heldInt64S (marked ((F_DualHomomorphism fp0 fp1 gp0 gp1 images).1).length 1) 1)) hE729 (y_move rfl) rfl rfl rfl ?_; intro a730 hE731; clear hE729
                            refine q_step (v := .int .i64 (1 + (((F_DualHomomorphism fp0 fp1 gp0 gp1 images).1).length : Int))) hE731 (y_move rfl) rfl rfl rfl ?_; intro a732 hE733; clear hE731
                            refine q_step (v := .bool (!decide ((F_l_heldInt64S (marked ((F_DualHomomorphism fp0 fp1 gp0 gp1 images).1).length 1) 1) = (1 + (((F_DualHomomorphism fp0 fp1 gp0 gp1 images).1).length : Int))))) hE733 (y_neq rfl rfl) rfl rfl rfl ?_; intro a734 hE735; clear hE733
                            refine c_nil ?_
                            have hE736 := hE735.sub (L' := [(139, .bool (!decide ((F_l_heldInt64S (marked ((F_DualHomomorphism fp0 fp1 gp0 gp1 images).1).length 1) 1) = (1 + (((F_DualHomomorphism fp0 fp1 gp0 gp1 images).1).length : Int)))))]) ⟨rfl, trivial⟩; clear hE735
                            refine p_tn ?_
                            have hE737 := hE736; rw [ht593] at hE737; clear hE736
                            refine c_false hE737 rfl ?_
                            refine wp_skip ?_
                            refine p_tn ?_
                            refine c_seq ?_
                            refine c_reg ?_
                            refine q_step (v := .bool true) hE737 (y_assign rfl) rfl rfl rfl ?_; intro a738 hE739; clear hE737
                            refine c_nil ?_
                            have hE740 := hE739.sub (L' := [(6, .bool true)]) ⟨rfl, trivial⟩; clear hE739
                            refine p_tn ?_
                            refine wp_ret ?_
                            have hF : F_l_FnExactDualHomomorphism fp0 fp1 gp0 gp1 images = true := by unfold F_l_FnExactDualHomomorphism; rw [ht593, ht578, ht525, ht387, ht355, ht320, ht283, ht82, ht55, ht26]; first | done | rfl
                            refine c_ret1 hE740 rfl rfl ?_
                            exact ⟨(by rw [hF]; first | done | rfl), hS719.ext⟩

theorem FnExactDualHomomorphism_true (fp0 : Int) (fp1 : List Int) (gp0 : Int) (gp1 : List Int) (images : List Int) : F_l_FnExactDualHomomorphism fp0 fp1 gp0 gp1 images = true := by
  unfold F_l_FnExactDualHomomorphism
  rw [DualHomomorphism_eq, heldI_eq]
  have h1 : decide (1 + (fp1.length : Int) + (gp1.length : Int) + (images.length : Int) < 0) = false := decide_eq_false (by omega)
  have h2 : decide ((1 : Int) + ((F_s_DualHomomorphism fp0 fp1 gp0 gp1 images).1.length : Int) < 0) = false := decide_eq_false (by omega)
  simp [h1, h2]

end Go.Proofs.Ytgcmfjliklcbdaa
