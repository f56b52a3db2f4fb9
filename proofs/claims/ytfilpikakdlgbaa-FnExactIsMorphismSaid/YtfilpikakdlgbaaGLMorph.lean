/- GLMorph: models and contracts, printed by wip/gen/gen.py -/
import Derived.Test.YtfilpikakdlgbaaGA
import Derived.Test.YtfilpikakdlgbaaGL
set_option linter.unusedVariables false
set_option linter.unusedSimpArgs false
namespace Go.Proofs.Ytfilpikakdlgbaa
open Go.RowKit

def F_l_FnExactIsMorphism (fp0 : Int) (fp1 : List Int) (gp0 : Int) (gp1 : List Int) (images : List Int) : Bool :=
  bif (decide (1048576 < (images.length : Int))) then true else (bif (decide ((F_l_szFrame fp0 fp1 1048576) < 0)) then true else (bif (decide ((F_l_szFrame gp0 gp1 (F_l_szFrame fp0 fp1 1048576)) < 0)) then true else (bif ((((F_IsMorphism fp0 fp1 gp0 gp1 images).1) != ((F_s_IsMorphism fp0 fp1 gp0 gp1 images).1)) || (!decide (((F_IsMorphism fp0 fp1 gp0 gp1 images).2) = ((F_s_IsMorphism fp0 fp1 gp0 gp1 images).2)))) then false else (bif (!(decide ((fp0, fp1) = (fp0, fp1)))) then false else (bif (!(decide ((gp0, gp1) = (gp0, gp1)))) then false else (bif (!(decide (images = images))) then false else true))))))
theorem cf_l_FnExactIsMorphism (args : Array Value) (w : World) : (callFunc 11 args).run Try.prog w = .ok (.enter 11 args) w := by kernel_rfl
set_option maxRecDepth 100000 in
theorem c_l_FnExactIsMorphism (fp0 : Int) (fp1A : Option Addr) (fp1N fp1C : Nat) (fp1 : List Int) (gp0 : Int) (gp1A : Option Addr) (gp1N gp1C : Nat) (gp1 : List Int) (imagesA : Option Addr) (imagesN imagesC : Nat) (images : List Int) (w : World) (fp1R : RdS w 1 fp1A fp1N fp1C fp1) (gp1R : RdS w 1 gp1A gp1N gp1C gp1) (imagesR : RdS w 1 imagesA imagesN imagesC images) :
    Calls Try.prog 11 #[.agg #[.int .i64 fp0, .slice fp1A fp1N fp1C], .agg #[.int .i64 gp0, .slice gp1A gp1N gp1C], .slice imagesA imagesN imagesC] w (Ret fun v w' => v = .bool (F_l_FnExactIsMorphism fp0 fp1 gp0 gp1 images) ∧ Ext w w') := by
  obtain rfl : fp1N = fp1.length := fp1R.len1.symm
  have fp1Le := fp1R.le
  obtain rfl : gp1N = gp1.length := gp1R.len1.symm
  have gp1Le := gp1R.le
  obtain rfl : imagesN = images.length := imagesR.len1.symm
  have imagesLe := imagesR.le
  have hS := St.nil w
  have hS1 := St.rd0 hS rfl fp1R; clear hS
  have hS2 := St.rd0 hS1 rfl gp1R; clear hS1
  have hS3 := St.rd0 hS2 rfl imagesR; clear hS2
  refine enter (args := [.agg #[.int .i64 fp0, .slice fp1A fp1.length fp1C], .agg #[.int .i64 gp0, .slice gp1A gp1.length gp1C], .slice imagesA images.length imagesC]) Try.func11 rfl rfl ?_
  rw [Try.ntmps11]; intro a hE
  have hE := hE.sub (L' := [(0, .agg #[.int .i64 fp0, .slice fp1A fp1.length fp1C]), (1, .agg #[.int .i64 gp0, .slice gp1A gp1.length gp1C]), (2, .slice imagesA images.length imagesC)]) ⟨rfl, rfl, rfl, trivial⟩
  refine c_seq ?_
  refine c_reg ?_
  refine l_step hE rfl (l_box (v := .agg #[.int .i64 fp0, .slice fp1A fp1.length fp1C]) (cs := #[.int .i64 fp0, .slice fp1A fp1.length fp1C]) hS3 hE rfl rfl rfl ?_)
  intro b4 w5 hS8 he9 a6 hE7; clear hS3 hE
  refine l_step hE7 rfl (l_box (v := .agg #[.int .i64 gp0, .slice gp1A gp1.length gp1C]) (cs := #[.int .i64 gp0, .slice gp1A gp1.length gp1C]) hS8 hE7 rfl rfl rfl ?_)
  intro b10 w11 hS14 he15 a12 hE13; clear hS8 hE7
  refine q_step (v := .bool false) hE13 (y_assign rfl) rfl rfl rfl ?_; intro a16 hE17; clear hE13
  refine c_nil ?_
  have hE18 := hE17.sub (L' := [(2, .slice imagesA images.length imagesC), (3, .pointer (some ⟨b4, 0, none⟩)), (4, .pointer (some ⟨b10, 0, none⟩))]) ⟨rfl, rfl, rfl, trivial⟩; clear hE17
  refine p_tn ?_
  refine c_seq ?_
  refine c_seq ?_
  refine c_reg ?_
  refine q_step (v := .slice imagesA images.length imagesC) hE18 (y_move rfl) rfl rfl rfl ?_; intro a19 hE20; clear hE18
  refine q_step (v := .int .i64 (images.length : Int)) hE20 (y_len (e := 2) (by kernel_rfl) rfl) rfl rfl rfl ?_; intro a21 hE22; clear hE20
  refine q_step (v := .bool (decide (1048576 < (images.length : Int)))) hE22 (y_gtr rfl rfl) rfl rfl rfl ?_; intro a23 hE24; clear hE22
  refine c_nil ?_
  have hE25 := hE24.sub (L' := [(2, .slice imagesA images.length imagesC), (3, .pointer (some ⟨b4, 0, none⟩)), (4, .pointer (some ⟨b10, 0, none⟩)), (17, .bool (decide (1048576 < (images.length : Int))))]) ⟨rfl, rfl, rfl, rfl, trivial⟩; clear hE24
  refine p_tn ?_
  refine c_cond hE25 rfl (fun ht26 => ?_) (fun ht26 => ?_)
  ·
    have hp27 := of_decide_eq_true ht26
    have hE28 := hE25; rw [ht26] at hE28; clear hE25
    refine c_seq ?_
    refine c_reg ?_
    refine q_step (v := .bool true) hE28 (y_assign rfl) rfl rfl rfl ?_; intro a29 hE30; clear hE28
    refine c_nil ?_
    have hE31 := hE30.sub (L' := [(6, .bool true)]) ⟨rfl, trivial⟩; clear hE30
    refine p_tn ?_
    refine wp_ret ?_
    refine p_tr ?_
    have hF : F_l_FnExactIsMorphism fp0 fp1 gp0 gp1 images = true := by unfold F_l_FnExactIsMorphism; rw [ht26]; first | done | rfl
    refine c_ret1 hE31 rfl rfl ?_
    exact ⟨(by rw [hF]; first | done | rfl), hS14.ext⟩
  ·
    have hp32 := of_decide_eq_false ht26
    have hE33 := hE25; rw [ht26] at hE33; clear hE25
    refine wp_skip ?_
    refine p_tn ?_
    refine c_seq ?_
    refine c_reg ?_
    refine q_step (v := .int .i64 1048576) hE33 (y_assign rfl) rfl rfl rfl ?_; intro a34 hE35; clear hE33
    refine c_nil ?_
    have hE36 := hE35.sub (L' := [(2, .slice imagesA images.length imagesC), (3, .pointer (some ⟨b4, 0, none⟩)), (4, .pointer (some ⟨b10, 0, none⟩)), (7, .int .i64 1048576)]) ⟨rfl, rfl, rfl, rfl, trivial⟩; clear hE35
    refine p_tn ?_
    refine c_seq ?_
    refine c_reg ?_
    refine q_step (v := .agg #[.int .i64 fp0, .slice fp1A fp1.length fp1C]) hE36 (y_loadS Try.underlying51 rfl (by kernel_rfl) rfl (St.row (i := 1) hS14 rfl)) rfl rfl rfl ?_; intro a37 hE38; clear hE36
    refine q_step (v := .int .i64 1048576) hE38 (y_move rfl) rfl rfl rfl ?_; intro a39 hE40; clear hE38
    refine l_step hE40 rfl (l_call (f := 36) (argv := [.agg #[.int .i64 fp0, .slice fp1A fp1.length fp1C], .int .i64 1048576]) hE40 (fun _ => cf_l_szFrame _ _) rfl rfl (c_l_szFrame fp0 fp1A fp1.length fp1C fp1 1048576 w11 (St.rdR (i := 4) hS14 rfl) (by first | omega | (simp only [marked_len]; omega)) (by first | omega | (simp only [marked_len]; omega))) ?_)
    rintro _ w42 ⟨rfl, he46⟩ a43 hE44; clear hE40
    have hS45 := St.go hS14 he46; clear hS14
    refine q_step (v := .int .i64 (F_l_szFrame fp0 fp1 1048576)) hE44 (y_assign rfl) rfl rfl rfl ?_; intro a47 hE48; clear hE44
    refine c_nil ?_
    have hE49 := hE48.sub (L' := [(2, .slice imagesA images.length imagesC), (3, .pointer (some ⟨b4, 0, none⟩)), (4, .pointer (some ⟨b10, 0, none⟩)), (7, .int .i64 (F_l_szFrame fp0 fp1 1048576))]) ⟨rfl, rfl, rfl, rfl, trivial⟩; clear hE48
    refine p_tn ?_
    refine c_seq ?_
    refine c_seq ?_
    refine c_reg ?_
    refine q_step (v := .int .i64 (F_l_szFrame fp0 fp1 1048576)) hE49 (y_move rfl) rfl rfl rfl ?_; intro a50 hE51; clear hE49
    refine q_step (v := .bool (decide ((F_l_szFrame fp0 fp1 1048576) < 0))) hE51 (y_lss rfl rfl) rfl rfl rfl ?_; intro a52 hE53; clear hE51
    refine c_nil ?_
    have hE54 := hE53.sub (L' := [(2, .slice imagesA images.length imagesC), (3, .pointer (some ⟨b4, 0, none⟩)), (4, .pointer (some ⟨b10, 0, none⟩)), (7, .int .i64 (F_l_szFrame fp0 fp1 1048576)), (22, .bool (decide ((F_l_szFrame fp0 fp1 1048576) < 0)))]) ⟨rfl, rfl, rfl, rfl, rfl, trivial⟩; clear hE53
    refine p_tn ?_
    refine c_cond hE54 rfl (fun ht55 => ?_) (fun ht55 => ?_)
    ·
      have hp56 := of_decide_eq_true ht55
      have hE57 := hE54; rw [ht55] at hE57; clear hE54
      refine c_seq ?_
      refine c_reg ?_
      refine q_step (v := .bool true) hE57 (y_assign rfl) rfl rfl rfl ?_; intro a58 hE59; clear hE57
      refine c_nil ?_
      have hE60 := hE59.sub (L' := [(6, .bool true)]) ⟨rfl, trivial⟩; clear hE59
      refine p_tn ?_
      refine wp_ret ?_
      refine p_tr ?_
      have hF : F_l_FnExactIsMorphism fp0 fp1 gp0 gp1 images = true := by unfold F_l_FnExactIsMorphism; rw [ht55, ht26]; first | done | rfl
      refine c_ret1 hE60 rfl rfl ?_
      exact ⟨(by rw [hF]; first | done | rfl), hS45.ext⟩
    ·
      have hp61 := of_decide_eq_false ht55
      have hq62 := szFrame_bound hp61
      have hE63 := hE54; rw [ht55] at hE63; clear hE54
      refine wp_skip ?_
      refine p_tn ?_
      refine c_seq ?_
      refine c_reg ?_
      refine q_step (v := .agg #[.int .i64 gp0, .slice gp1A gp1.length gp1C]) hE63 (y_loadS Try.underlying51 rfl (by kernel_rfl) rfl (St.row (i := 0) hS45 rfl)) rfl rfl rfl ?_; intro a64 hE65; clear hE63
      refine q_step (v := .int .i64 (F_l_szFrame fp0 fp1 1048576)) hE65 (y_move rfl) rfl rfl rfl ?_; intro a66 hE67; clear hE65
      refine l_step hE67 rfl (l_call (f := 36) (argv := [.agg #[.int .i64 gp0, .slice gp1A gp1.length gp1C], .int .i64 (F_l_szFrame fp0 fp1 1048576)]) hE67 (fun _ => cf_l_szFrame _ _) rfl rfl (c_l_szFrame gp0 gp1A gp1.length gp1C gp1 (F_l_szFrame fp0 fp1 1048576) w42 (St.rdR (i := 3) hS45 rfl) (by first | omega | (simp only [marked_len]; omega)) (by first | omega | (simp only [marked_len]; omega))) ?_)
      rintro _ w69 ⟨rfl, he73⟩ a70 hE71; clear hE67
      have hS72 := St.go hS45 he73; clear hS45
      refine q_step (v := .int .i64 (F_l_szFrame gp0 gp1 (F_l_szFrame fp0 fp1 1048576))) hE71 (y_assign rfl) rfl rfl rfl ?_; intro a74 hE75; clear hE71
      refine c_nil ?_
      have hE76 := hE75.sub (L' := [(2, .slice imagesA images.length imagesC), (3, .pointer (some ⟨b4, 0, none⟩)), (4, .pointer (some ⟨b10, 0, none⟩)), (7, .int .i64 (F_l_szFrame gp0 gp1 (F_l_szFrame fp0 fp1 1048576)))]) ⟨rfl, rfl, rfl, rfl, trivial⟩; clear hE75
      refine p_tn ?_
      refine c_seq ?_
      refine c_seq ?_
      refine c_reg ?_
      refine q_step (v := .int .i64 (F_l_szFrame gp0 gp1 (F_l_szFrame fp0 fp1 1048576))) hE76 (y_move rfl) rfl rfl rfl ?_; intro a77 hE78; clear hE76
      refine q_step (v := .bool (decide ((F_l_szFrame gp0 gp1 (F_l_szFrame fp0 fp1 1048576)) < 0))) hE78 (y_lss rfl rfl) rfl rfl rfl ?_; intro a79 hE80; clear hE78
      refine c_nil ?_
      have hE81 := hE80.sub (L' := [(2, .slice imagesA images.length imagesC), (3, .pointer (some ⟨b4, 0, none⟩)), (4, .pointer (some ⟨b10, 0, none⟩)), (27, .bool (decide ((F_l_szFrame gp0 gp1 (F_l_szFrame fp0 fp1 1048576)) < 0)))]) ⟨rfl, rfl, rfl, rfl, trivial⟩; clear hE80
      refine p_tn ?_
      refine c_cond hE81 rfl (fun ht82 => ?_) (fun ht82 => ?_)
      ·
        have hp83 := of_decide_eq_true ht82
        have hE84 := hE81; rw [ht82] at hE84; clear hE81
        refine c_seq ?_
        refine c_reg ?_
        refine q_step (v := .bool true) hE84 (y_assign rfl) rfl rfl rfl ?_; intro a85 hE86; clear hE84
        refine c_nil ?_
        have hE87 := hE86.sub (L' := [(6, .bool true)]) ⟨rfl, trivial⟩; clear hE86
        refine p_tn ?_
        refine wp_ret ?_
        refine p_tr ?_
        have hF : F_l_FnExactIsMorphism fp0 fp1 gp0 gp1 images = true := by unfold F_l_FnExactIsMorphism; rw [ht82, ht55, ht26]; first | done | rfl
        refine c_ret1 hE87 rfl rfl ?_
        exact ⟨(by rw [hF]; first | done | rfl), hS72.ext⟩
      ·
        have hp88 := of_decide_eq_false ht82
        have hq89 := szFrame_bound hp88
        have hE90 := hE81; rw [ht82] at hE90; clear hE81
        refine wp_skip ?_
        refine p_tn ?_
        refine c_seq ?_
        refine d_start (fun w' => w'.heap[b4]? = some (.cells #[.int .i64 fp0, .slice fp1A fp1.length fp1C] 51 (0, 0)) ∧ w'.heap[b10]? = some (.cells #[.int .i64 gp0, .slice gp1A gp1.length gp1C] 51 (0, 0)) ∧ True) [0, 2] 12 (by kernel_rfl) rfl ?_
        intro w91 he92; have hS93 := St.go hS72 he92; clear hS72
        refine d_take (v := .agg #[.int .i64 fp0, .slice fp1A fp1.length fp1C]) 0 rfl hE90 ⟨(St.row (i := 1) hS93 rfl _ (Ext.refl _)), (St.row (i := 0) hS93 rfl _ (Ext.refl _)), trivial⟩ (y_loadS Try.underlying51 rfl (by kernel_rfl) rfl (fun _ h => h.1)) rfl rfl (by kernel_rfl) (by kernel_rfl) (by kernel_rfl) rfl rfl (fun _ _ _ h => h) ?_; intro a94 hE95; clear hE90
        refine d_take (v := .agg #[.int .i64 gp0, .slice gp1A gp1.length gp1C]) 2 rfl hE95 ⟨(St.row (i := 1) hS93 rfl _ (Ext.refl _)), (St.row (i := 0) hS93 rfl _ (Ext.refl _)), trivial⟩ (y_loadS Try.underlying51 rfl (by kernel_rfl) rfl (fun _ h => h.2.1)) rfl rfl (by kernel_rfl) (by kernel_rfl) (by kernel_rfl) rfl rfl (fun _ _ _ h => h) ?_; intro a96 hE97; clear hE95
        refine d_pure (v := .slice imagesA images.length imagesC) 4 rfl hE97 (y_move rfl) rfl (by kernel_rfl) (by kernel_rfl) (by kernel_rfl) rfl rfl (fun _ _ _ h => h) ?_; intro a98 hE99; clear hE97
        refine d_only 1 (by kernel_rfl) rfl hE99 rfl (l_call (f := 38) (argv := [.agg #[.int .i64 fp0, .slice fp1A fp1.length fp1C]]) hE99 (fun _ => cf_l_toFrame _ _) rfl rfl (d_l_toFrame fp0 fp1A fp1.length fp1C fp1 w91 (St.rdR (i := 4) hS93 rfl) (by first | omega | (simp only [marked_len]; omega))) ?_)
        rintro _ w101 ⟨b106, c107, rfl, ho108, he105⟩ a102 hE103; clear hE99
        have hS104 := St.own hS93 he105 ho108; clear hS93
        refine ⟨fun _ _ => ⟨(St.row (i := 2) hS104 rfl _ (Ext.refl _)), (St.row (i := 1) hS104 rfl _ (Ext.refl _)), trivial⟩, ?_⟩
        refine d_only 3 (by kernel_rfl) rfl hE103 rfl (l_call (f := 38) (argv := [.agg #[.int .i64 gp0, .slice gp1A gp1.length gp1C]]) hE103 (fun _ => cf_l_toFrame _ _) rfl rfl (d_l_toFrame gp0 gp1A gp1.length gp1C gp1 w101 (St.rdR (i := 4) hS104 rfl) (by first | omega | (simp only [marked_len]; omega))) ?_)
        rintro _ w110 ⟨b115, c116, rfl, ho117, he114⟩ a111 hE112; clear hE103
        have hS113 := St.own hS104 he114 ho117; clear hS104
        refine ⟨fun _ _ => ⟨(St.row (i := 3) hS113 rfl _ (Ext.refl _)), (St.row (i := 2) hS113 rfl _ (Ext.refl _)), trivial⟩, ?_⟩
        refine d_only 5 (by kernel_rfl) rfl hE112 rfl (l_call (f := 21) (argv := [.slice imagesA images.length imagesC]) hE112 (fun _ => cf_l_toInt64S _ _) rfl rfl (d_l_toInt64S imagesA images.length imagesC images w110 (St.rdR (i := 4) hS113 rfl) (by first | omega | (simp only [marked_len]; omega))) ?_)
        rintro _ w119 ⟨b124, c125, rfl, ho126, he123⟩ a120 hE121; clear hE112
        have hS122 := St.own hS113 he123 ho126; clear hS113
        refine ⟨fun _ _ => ⟨(St.row (i := 4) hS122 rfl _ (Ext.refl _)), (St.row (i := 3) hS122 rfl _ (Ext.refl _)), trivial⟩, ?_⟩
        refine d_only 6 (by kernel_rfl) rfl hE121 rfl (l_call (f := 48) (argv := [.agg #[.int .i64 fp0, .slice b106 ((fp1).length) c107], .agg #[.int .i64 gp0, .slice b115 ((gp1).length) c116], .slice b124 ((images).length) c125]) hE121 (fun _ => cf_s_IsMorphism _ _) rfl rfl (c_s_IsMorphism fp0 b106 ((fp1).length) c107 fp1 gp0 b115 ((gp1).length) c116 gp1 b124 ((images).length) c125 images w119 (St.rdO (i := 2) hS122 rfl) (St.rdO (i := 1) hS122 rfl) (St.rdO (i := 0) hS122 rfl)) ?_)
        rintro _ w128 ⟨rfl, he132⟩ a129 hE130; clear hE121
        have hS131 := St.go hS122 he132; clear hS122
        refine ⟨fun _ _ => ⟨(St.row (i := 4) hS131 rfl _ (Ext.refl _)), (St.row (i := 3) hS131 rfl _ (Ext.refl _)), trivial⟩, ?_⟩
        refine d_pure (v := .tuple #[.bool ((F_s_IsMorphism fp0 fp1 gp0 gp1 images).1), .int .i64 ((F_s_IsMorphism fp0 fp1 gp0 gp1 images).2)]) 7 rfl hE130 (y_move rfl) rfl (by kernel_rfl) (by kernel_rfl) (by kernel_rfl) rfl rfl (fun _ _ _ h => h) ?_; intro a133 hE134; clear hE130
        refine d_pure (v := .bool ((F_s_IsMorphism fp0 fp1 gp0 gp1 images).1)) 8 rfl hE134 (y_extract rfl rfl) rfl (by kernel_rfl) (by kernel_rfl) (by kernel_rfl) rfl rfl (fun _ _ _ h => h) ?_; intro a135 hE136; clear hE134
        refine d_pure (v := .int .i64 ((F_s_IsMorphism fp0 fp1 gp0 gp1 images).2)) 9 rfl hE136 (y_extract rfl rfl) rfl (by kernel_rfl) (by kernel_rfl) (by kernel_rfl) rfl rfl (fun _ _ _ h => h) ?_; intro a137 hE138; clear hE136
        refine d_pure (v := .bool ((F_s_IsMorphism fp0 fp1 gp0 gp1 images).1)) 10 rfl hE138 (y_assign rfl) rfl (by kernel_rfl) (by kernel_rfl) (by kernel_rfl) rfl rfl (fun _ _ _ h => h) ?_; intro a139 hE140; clear hE138
        refine d_pure (v := .int .i64 ((F_s_IsMorphism fp0 fp1 gp0 gp1 images).2)) 11 rfl hE140 (y_assign rfl) rfl (by kernel_rfl) (by kernel_rfl) (by kernel_rfl) rfl rfl (fun _ _ _ h => h) ?_; intro a141 hE142; clear hE140
        refine d_done (by kernel_rfl) ?_
        have hE143 := hE142.sub (L' := [(2, .slice imagesA images.length imagesC), (3, .pointer (some ⟨b4, 0, none⟩)), (4, .pointer (some ⟨b10, 0, none⟩)), (8, .bool ((F_s_IsMorphism fp0 fp1 gp0 gp1 images).1)), (9, .int .i64 ((F_s_IsMorphism fp0 fp1 gp0 gp1 images).2))]) ⟨rfl, rfl, rfl, rfl, rfl, trivial⟩; clear hE142
        refine p_tn ?_
        refine c_seq ?_
        refine c_reg ?_
        refine q_step (v := .agg #[.int .i64 fp0, .slice fp1A fp1.length fp1C]) hE143 (y_loadS Try.underlying51 rfl (by kernel_rfl) rfl (St.row (i := 4) hS131 rfl)) rfl rfl rfl ?_; intro a144 hE145; clear hE143
        refine l_step hE145 rfl (l_call (f := 38) (argv := [.agg #[.int .i64 fp0, .slice fp1A fp1.length fp1C]]) hE145 (fun _ => cf_l_toFrame _ _) rfl rfl (d_l_toFrame fp0 fp1A fp1.length fp1C fp1 w128 (St.rdR (i := 7) hS131 rfl) (by first | omega | (simp only [marked_len]; omega))) ?_)
        rintro _ w147 ⟨b152, c153, rfl, ho154, he151⟩ a148 hE149; clear hE145
        have hS150 := St.own hS131 he151 ho154; clear hS131
        refine l_step hE149 rfl (l_alloc (z := .agg #[.int .i64 0, .slice none 0 0]) (cs := #[.int .i64 0, .slice none 0 0]) hS150 hE149 (fun _ => by kernel_rfl) rfl rfl ?_)
        intro b155 w156 hS159 he160 a157 hE158; clear hS150 hE149
        refine l_step hE158 rfl (l_storeS (k := 0) (cs' := #[.int .i64 fp0, .slice b152 ((fp1).length) c153]) hS159 hE158 (by kernel_rfl) rfl rfl (by kernel_rfl) rfl rfl ?_)
        intro w162 hS165 a163 hE164; clear hS159 hE158
        refine c_nil ?_
        have hE167 := hE164.sub (L' := [(2, .slice imagesA images.length imagesC), (3, .pointer (some ⟨b4, 0, none⟩)), (4, .pointer (some ⟨b10, 0, none⟩)), (8, .bool ((F_s_IsMorphism fp0 fp1 gp0 gp1 images).1)), (9, .int .i64 ((F_s_IsMorphism fp0 fp1 gp0 gp1 images).2)), (10, .pointer (some ⟨b155, 0, none⟩))]) ⟨rfl, rfl, rfl, rfl, rfl, rfl, trivial⟩; clear hE164
        refine p_tn ?_
        refine c_seq ?_
        refine c_reg ?_
        refine q_step (v := .agg #[.int .i64 gp0, .slice gp1A gp1.length gp1C]) hE167 (y_loadS Try.underlying51 rfl (by kernel_rfl) rfl (St.row (i := 5) hS165 rfl)) rfl rfl rfl ?_; intro a168 hE169; clear hE167
        refine l_step hE169 rfl (l_call (f := 38) (argv := [.agg #[.int .i64 gp0, .slice gp1A gp1.length gp1C]]) hE169 (fun _ => cf_l_toFrame _ _) rfl rfl (d_l_toFrame gp0 gp1A gp1.length gp1C gp1 w162 (St.rdR (i := 8) hS165 rfl) (by first | omega | (simp only [marked_len]; omega))) ?_)
        rintro _ w171 ⟨b176, c177, rfl, ho178, he175⟩ a172 hE173; clear hE169
        have hS174 := St.own hS165 he175 ho178; clear hS165
        refine l_step hE173 rfl (l_alloc (z := .agg #[.int .i64 0, .slice none 0 0]) (cs := #[.int .i64 0, .slice none 0 0]) hS174 hE173 (fun _ => by kernel_rfl) rfl rfl ?_)
        intro b179 w180 hS183 he184 a181 hE182; clear hS174 hE173
        refine l_step hE182 rfl (l_storeS (k := 0) (cs' := #[.int .i64 gp0, .slice b176 ((gp1).length) c177]) hS183 hE182 (by kernel_rfl) rfl rfl (by kernel_rfl) rfl rfl ?_)
        intro w186 hS189 a187 hE188; clear hS183 hE182
        refine c_nil ?_
        have hE191 := hE188.sub (L' := [(2, .slice imagesA images.length imagesC), (3, .pointer (some ⟨b4, 0, none⟩)), (4, .pointer (some ⟨b10, 0, none⟩)), (8, .bool ((F_s_IsMorphism fp0 fp1 gp0 gp1 images).1)), (9, .int .i64 ((F_s_IsMorphism fp0 fp1 gp0 gp1 images).2)), (10, .pointer (some ⟨b155, 0, none⟩)), (11, .pointer (some ⟨b179, 0, none⟩))]) ⟨rfl, rfl, rfl, rfl, rfl, rfl, rfl, trivial⟩; clear hE188
        refine p_tn ?_
        refine c_seq ?_
        refine c_reg ?_
        refine q_step (v := .slice imagesA images.length imagesC) hE191 (y_move rfl) rfl rfl rfl ?_; intro a192 hE193; clear hE191
        refine l_step hE193 rfl (l_call (f := 21) (argv := [.slice imagesA images.length imagesC]) hE193 (fun _ => cf_l_toInt64S _ _) rfl rfl (d_l_toInt64S imagesA images.length imagesC images w186 (St.rdR (i := 9) hS189 rfl) (by first | omega | (simp only [marked_len]; omega))) ?_)
        rintro _ w195 ⟨b200, c201, rfl, ho202, he199⟩ a196 hE197; clear hE193
        have hS198 := St.own hS189 he199 ho202; clear hS189
        refine q_step (v := .slice b200 ((images).length) c201) hE197 (y_assign rfl) rfl rfl rfl ?_; intro a203 hE204; clear hE197
        refine c_nil ?_
        have hE205 := hE204.sub (L' := [(2, .slice imagesA images.length imagesC), (3, .pointer (some ⟨b4, 0, none⟩)), (4, .pointer (some ⟨b10, 0, none⟩)), (8, .bool ((F_s_IsMorphism fp0 fp1 gp0 gp1 images).1)), (9, .int .i64 ((F_s_IsMorphism fp0 fp1 gp0 gp1 images).2)), (10, .pointer (some ⟨b155, 0, none⟩)), (11, .pointer (some ⟨b179, 0, none⟩)), (12, .slice b200 ((images).length) c201)]) ⟨rfl, rfl, rfl, rfl, rfl, rfl, rfl, rfl, trivial⟩; clear hE204
        refine p_tn ?_
        refine c_seq ?_
        refine c_reg ?_
        refine q_step (v := .agg #[.int .i64 fp0, .slice b152 ((fp1).length) c153]) hE205 (y_loadS Try.underlying53 rfl (by kernel_rfl) rfl (St.row (i := 3) hS198 rfl)) rfl rfl rfl ?_; intro a206 hE207; clear hE205
        refine q_step (v := .agg #[.int .i64 gp0, .slice b176 ((gp1).length) c177]) hE207 (y_loadS Try.underlying53 rfl (by kernel_rfl) rfl (St.row (i := 1) hS198 rfl)) rfl rfl rfl ?_; intro a208 hE209; clear hE207
        refine q_step (v := .slice b200 ((images).length) c201) hE209 (y_move rfl) rfl rfl rfl ?_; intro a210 hE211; clear hE209
        refine l_step hE211 rfl (l_call (f := 49) (argv := [.agg #[.int .i64 fp0, .slice b152 ((fp1).length) c153], .agg #[.int .i64 gp0, .slice b176 ((gp1).length) c177], .slice b200 ((images).length) c201]) hE211 (fun _ => cf_IsMorphism _ _) rfl rfl (c_IsMorphism fp0 b152 ((fp1).length) c153 fp1 gp0 b176 ((gp1).length) c177 gp1 b200 ((images).length) c201 images w195 (St.rdO (i := 4) hS198 rfl) (St.rdO (i := 2) hS198 rfl) (St.rdO (i := 0) hS198 rfl)) ?_)
        rintro _ w213 ⟨rfl, he217⟩ a214 hE215; clear hE211
        have hS216 := St.go hS198 he217; clear hS198
        refine q_step (v := .tuple #[.bool ((F_IsMorphism fp0 fp1 gp0 gp1 images).1), .int .i64 ((F_IsMorphism fp0 fp1 gp0 gp1 images).2)]) hE215 (y_move rfl) rfl rfl rfl ?_; intro a218 hE219; clear hE215
        refine q_step (v := .bool ((F_IsMorphism fp0 fp1 gp0 gp1 images).1)) hE219 (y_extract rfl rfl) rfl rfl rfl ?_; intro a220 hE221; clear hE219
        refine q_step (v := .int .i64 ((F_IsMorphism fp0 fp1 gp0 gp1 images).2)) hE221 (y_extract rfl rfl) rfl rfl rfl ?_; intro a222 hE223; clear hE221
        refine q_step (v := .bool ((F_IsMorphism fp0 fp1 gp0 gp1 images).1)) hE223 (y_assign rfl) rfl rfl rfl ?_; intro a224 hE225; clear hE223
        refine q_step (v := .int .i64 ((F_IsMorphism fp0 fp1 gp0 gp1 images).2)) hE225 (y_assign rfl) rfl rfl rfl ?_; intro a226 hE227; clear hE225
        refine c_nil ?_
        have hE228 := hE227.sub (L' := [(2, .slice imagesA images.length imagesC), (3, .pointer (some ⟨b4, 0, none⟩)), (4, .pointer (some ⟨b10, 0, none⟩)), (8, .bool ((F_s_IsMorphism fp0 fp1 gp0 gp1 images).1)), (9, .int .i64 ((F_s_IsMorphism fp0 fp1 gp0 gp1 images).2)), (10, .pointer (some ⟨b155, 0, none⟩)), (11, .pointer (some ⟨b179, 0, none⟩)), (12, .slice b200 ((images).length) c201), (13, .bool ((F_IsMorphism fp0 fp1 gp0 gp1 images).1)), (14, .int .i64 ((F_IsMorphism fp0 fp1 gp0 gp1 images).2))]) ⟨rfl, rfl, rfl, rfl, rfl, rfl, rfl, rfl, rfl, rfl, trivial⟩; clear hE227
        refine p_tn ?_
        refine c_seq ?_
        refine c_cut (fun a' w' => E a' 74 [(2, .slice imagesA images.length imagesC), (3, .pointer (some ⟨b4, 0, none⟩)), (4, .pointer (some ⟨b10, 0, none⟩)), (10, .pointer (some ⟨b155, 0, none⟩)), (11, .pointer (some ⟨b179, 0, none⟩)), (12, .slice b200 ((images).length) c201), (58, .bool ((((F_IsMorphism fp0 fp1 gp0 gp1 images).1) != ((F_s_IsMorphism fp0 fp1 gp0 gp1 images).1)) || (!decide (((F_IsMorphism fp0 fp1 gp0 gp1 images).2) = ((F_s_IsMorphism fp0 fp1 gp0 gp1 images).2)))))] ∧ St w w' [.own 2 1 b200 ((images).length) c201 images, .own 2 1 b176 ((gp1).length) c177 gp1, .blk b179 #[.int .i64 gp0, .slice b176 ((gp1).length) c177] 53, .own 2 1 b152 ((fp1).length) c153 fp1, .blk b155 #[.int .i64 fp0, .slice b152 ((fp1).length) c153] 53, .own 2 1 b124 ((images).length) c125 images, .own 2 1 b115 ((gp1).length) c116 gp1, .own 2 1 b106 ((fp1).length) c107 fp1, .rd 1 gp1A gp1.length gp1C gp1, .blk b10 #[.int .i64 gp0, .slice gp1A gp1.length gp1C] 51, .rd 1 fp1A fp1.length fp1C fp1, .blk b4 #[.int .i64 fp0, .slice fp1A fp1.length fp1C] 51, .rd 1 imagesA images.length imagesC images]) ?_ ?_
        ·
          refine c_reg ?_
          refine q_step (v := .bool ((F_IsMorphism fp0 fp1 gp0 gp1 images).1)) hE228 (y_move rfl) rfl rfl rfl ?_; intro a229 hE230; clear hE228
          refine q_step (v := .bool ((F_s_IsMorphism fp0 fp1 gp0 gp1 images).1)) hE230 (y_move rfl) rfl rfl rfl ?_; intro a231 hE232; clear hE230
          refine q_step (v := .bool (((F_IsMorphism fp0 fp1 gp0 gp1 images).1) != ((F_s_IsMorphism fp0 fp1 gp0 gp1 images).1))) hE232 (y_neqb (by kernel_rfl) rfl rfl) rfl rfl rfl ?_; intro a233 hE234; clear hE232
          refine q_step (v := .bool (((F_IsMorphism fp0 fp1 gp0 gp1 images).1) != ((F_s_IsMorphism fp0 fp1 gp0 gp1 images).1))) hE234 (y_move rfl) rfl rfl rfl ?_; intro a235 hE236; clear hE234
          rcases Bool.eq_false_or_eq_true (((F_IsMorphism fp0 fp1 gp0 gp1 images).1) != ((F_s_IsMorphism fp0 fp1 gp0 gp1 images).1)) with hb237 | hb237
          ·
            have hE238 := hE236; rw [hb237] at hE238; clear hE236
            refine q_skip hE238 rfl rfl rfl ?_; intro a239 hE240; clear hE238
            refine q_skip hE240 rfl rfl rfl ?_; intro a241 hE242; clear hE240
            refine q_skip hE242 rfl rfl rfl ?_; intro a243 hE244; clear hE242
            refine q_step (v := .bool true) hE244 (y_pick (b := true) rfl rfl) rfl rfl rfl ?_; intro a245 hE246; clear hE244
            refine c_nil ?_
            have hE247 := hE246.sub (L' := [(2, .slice imagesA images.length imagesC), (3, .pointer (some ⟨b4, 0, none⟩)), (4, .pointer (some ⟨b10, 0, none⟩)), (10, .pointer (some ⟨b155, 0, none⟩)), (11, .pointer (some ⟨b179, 0, none⟩)), (12, .slice b200 ((images).length) c201), (58, .bool true)]) ⟨rfl, rfl, rfl, rfl, rfl, rfl, rfl, trivial⟩; clear hE246
            refine p_tn ?_
            have hE248 := hE247.sub (L' := [(2, .slice imagesA images.length imagesC), (3, .pointer (some ⟨b4, 0, none⟩)), (4, .pointer (some ⟨b10, 0, none⟩)), (10, .pointer (some ⟨b155, 0, none⟩)), (11, .pointer (some ⟨b179, 0, none⟩)), (12, .slice b200 ((images).length) c201), (58, .bool true)]) ⟨rfl, rfl, rfl, rfl, rfl, rfl, rfl, trivial⟩
            have hS249 := (St.pick (Γ' := [.own 2 1 b200 ((images).length) c201 images, .own 2 1 b176 ((gp1).length) c177 gp1, .blk b179 #[.int .i64 gp0, .slice b176 ((gp1).length) c177] 53, .own 2 1 b152 ((fp1).length) c153 fp1, .blk b155 #[.int .i64 fp0, .slice b152 ((fp1).length) c153] 53, .own 2 1 b124 ((images).length) c125 images, .own 2 1 b115 ((gp1).length) c116 gp1, .own 2 1 b106 ((fp1).length) c107 fp1, .rd 1 gp1A gp1.length gp1C gp1, .blk b10 #[.int .i64 gp0, .slice gp1A gp1.length gp1C] 51, .rd 1 fp1A fp1.length fp1C fp1, .blk b4 #[.int .i64 fp0, .slice fp1A fp1.length fp1C] 51, .rd 1 imagesA images.length imagesC images]) hS216 [0, 2, 1, 4, 3, 5, 6, 7, 11, 8, 12, 9, 10] (by decide) rfl)
            exact ⟨(by rw [hb237]; exact hE248), hS249⟩
          ·
            have hE250 := hE236; rw [hb237] at hE250; clear hE236
            refine q_step (v := .int .i64 ((F_IsMorphism fp0 fp1 gp0 gp1 images).2)) hE250 (y_move rfl) rfl rfl rfl ?_; intro a251 hE252; clear hE250
            refine q_step (v := .int .i64 ((F_s_IsMorphism fp0 fp1 gp0 gp1 images).2)) hE252 (y_move rfl) rfl rfl rfl ?_; intro a253 hE254; clear hE252
            refine q_step (v := .bool (!decide (((F_IsMorphism fp0 fp1 gp0 gp1 images).2) = ((F_s_IsMorphism fp0 fp1 gp0 gp1 images).2)))) hE254 (y_neq rfl rfl) rfl rfl rfl ?_; intro a255 hE256; clear hE254
            refine q_step (v := .bool (!decide (((F_IsMorphism fp0 fp1 gp0 gp1 images).2) = ((F_s_IsMorphism fp0 fp1 gp0 gp1 images).2)))) hE256 (y_pick (b := false) rfl rfl) rfl rfl rfl ?_; intro a257 hE258; clear hE256
            refine c_nil ?_
            have hE259 := hE258.sub (L' := [(2, .slice imagesA images.length imagesC), (3, .pointer (some ⟨b4, 0, none⟩)), (4, .pointer (some ⟨b10, 0, none⟩)), (10, .pointer (some ⟨b155, 0, none⟩)), (11, .pointer (some ⟨b179, 0, none⟩)), (12, .slice b200 ((images).length) c201), (58, .bool (!decide (((F_IsMorphism fp0 fp1 gp0 gp1 images).2) = ((F_s_IsMorphism fp0 fp1 gp0 gp1 images).2))))]) ⟨rfl, rfl, rfl, rfl, rfl, rfl, rfl, trivial⟩; clear hE258
            refine p_tn ?_
            have hE260 := hE259.sub (L' := [(2, .slice imagesA images.length imagesC), (3, .pointer (some ⟨b4, 0, none⟩)), (4, .pointer (some ⟨b10, 0, none⟩)), (10, .pointer (some ⟨b155, 0, none⟩)), (11, .pointer (some ⟨b179, 0, none⟩)), (12, .slice b200 ((images).length) c201), (58, .bool (!decide (((F_IsMorphism fp0 fp1 gp0 gp1 images).2) = ((F_s_IsMorphism fp0 fp1 gp0 gp1 images).2))))]) ⟨rfl, rfl, rfl, rfl, rfl, rfl, rfl, trivial⟩
            have hS261 := (St.pick (Γ' := [.own 2 1 b200 ((images).length) c201 images, .own 2 1 b176 ((gp1).length) c177 gp1, .blk b179 #[.int .i64 gp0, .slice b176 ((gp1).length) c177] 53, .own 2 1 b152 ((fp1).length) c153 fp1, .blk b155 #[.int .i64 fp0, .slice b152 ((fp1).length) c153] 53, .own 2 1 b124 ((images).length) c125 images, .own 2 1 b115 ((gp1).length) c116 gp1, .own 2 1 b106 ((fp1).length) c107 fp1, .rd 1 gp1A gp1.length gp1C gp1, .blk b10 #[.int .i64 gp0, .slice gp1A gp1.length gp1C] 51, .rd 1 fp1A fp1.length fp1C fp1, .blk b4 #[.int .i64 fp0, .slice fp1A fp1.length fp1C] 51, .rd 1 imagesA images.length imagesC images]) hS216 [0, 2, 1, 4, 3, 5, 6, 7, 11, 8, 12, 9, 10] (by decide) rfl)
            exact ⟨(by rw [hb237]; exact hE260), hS261⟩
        ·
          rintro a262 w263 ⟨hE264, hS265⟩; clear hE228 hS216
          refine c_cond hE264 rfl (fun ht266 => ?_) (fun ht266 => ?_)
          ·
            have hE267 := hE264; rw [ht266] at hE267; clear hE264
            refine c_seq ?_
            refine c_reg ?_
            refine q_step (v := .bool false) hE267 (y_assign rfl) rfl rfl rfl ?_; intro a268 hE269; clear hE267
            refine c_nil ?_
            have hE270 := hE269.sub (L' := [(6, .bool false)]) ⟨rfl, trivial⟩; clear hE269
            refine p_tn ?_
            refine wp_ret ?_
            refine p_tr ?_
            have hF : F_l_FnExactIsMorphism fp0 fp1 gp0 gp1 images = false := by unfold F_l_FnExactIsMorphism; rw [ht266, ht82, ht55, ht26]; first | done | rfl
            refine c_ret1 hE270 rfl rfl ?_
            exact ⟨(by rw [hF]; first | done | rfl), hS265.ext⟩
          ·
            obtain ⟨ht271, ht272⟩ := bor_f ht266
            have ht273 := bn_f ht272
            have hp274 := of_decide_eq_true ht273
            have hE275 := hE264; rw [ht266] at hE275; clear hE264
            refine wp_skip ?_
            refine p_tn ?_
            refine c_seq ?_
            refine c_seq ?_
            refine d_start (fun w' => w'.heap[b155]? = some (.cells #[.int .i64 fp0, .slice b152 ((fp1).length) c153] 53 (0, 0)) ∧ w'.heap[b4]? = some (.cells #[.int .i64 fp0, .slice fp1A fp1.length fp1C] 51 (0, 0)) ∧ True) [0, 1] 5 (by kernel_rfl) rfl ?_
            intro w276 he277; have hS278 := St.go hS265 he277; clear hS265
            refine d_take (v := .agg #[.int .i64 fp0, .slice b152 ((fp1).length) c153]) 0 rfl hE275 ⟨(St.row (i := 4) hS278 rfl _ (Ext.refl _)), (St.row (i := 11) hS278 rfl _ (Ext.refl _)), trivial⟩ (y_loadS Try.underlying53 rfl (by kernel_rfl) rfl (fun _ h => h.1)) rfl rfl (by kernel_rfl) (by kernel_rfl) (by kernel_rfl) rfl rfl (fun _ _ _ h => h) ?_; intro a279 hE280; clear hE275
            refine d_take (v := .agg #[.int .i64 fp0, .slice fp1A fp1.length fp1C]) 1 rfl hE280 ⟨(St.row (i := 4) hS278 rfl _ (Ext.refl _)), (St.row (i := 11) hS278 rfl _ (Ext.refl _)), trivial⟩ (y_loadS Try.underlying51 rfl (by kernel_rfl) rfl (fun _ h => h.2.1)) rfl rfl (by kernel_rfl) (by kernel_rfl) (by kernel_rfl) rfl rfl (fun _ _ _ h => h) ?_; intro a281 hE282; clear hE280
            refine d_only 2 (by kernel_rfl) rfl hE282 rfl (l_call (f := 38) (argv := [.agg #[.int .i64 fp0, .slice fp1A fp1.length fp1C]]) hE282 (fun _ => cf_l_toFrame _ _) rfl rfl (d_l_toFrame fp0 fp1A fp1.length fp1C fp1 w276 (St.rdR (i := 10) hS278 rfl) (by first | omega | (simp only [marked_len]; omega))) ?_)
            rintro _ w284 ⟨b289, c290, rfl, ho291, he288⟩ a285 hE286; clear hE282
            have hS287 := St.own hS278 he288 ho291; clear hS278
            refine ⟨fun _ _ => ⟨(St.row (i := 5) hS287 rfl _ (Ext.refl _)), (St.row (i := 12) hS287 rfl _ (Ext.refl _)), trivial⟩, ?_⟩
            refine d_only 3 (by kernel_rfl) rfl hE286 rfl (l_call (f := 40) (argv := [.agg #[.int .i64 fp0, .slice b152 ((fp1).length) c153], .agg #[.int .i64 fp0, .slice b289 ((fp1).length) c290]]) hE286 (fun _ => cf_l_eqFrame _ _) rfl rfl (d_l_eqFrame fp0 b152 ((fp1).length) c153 fp1 fp0 b289 ((fp1).length) c290 fp1 w284 (St.rdO (i := 4) hS287 rfl) (St.rdO (i := 0) hS287 rfl)) ?_)
            rintro _ w293 ⟨rfl, he297⟩ a294 hE295; clear hE286
            have hS296 := St.go hS287 he297; clear hS287
            refine ⟨fun _ _ => ⟨(St.row (i := 5) hS296 rfl _ (Ext.refl _)), (St.row (i := 12) hS296 rfl _ (Ext.refl _)), trivial⟩, ?_⟩
            refine d_pure (v := .bool (!(decide ((fp0, fp1) = (fp0, fp1))))) 4 rfl hE295 (y_not rfl) rfl (by kernel_rfl) (by kernel_rfl) (by kernel_rfl) rfl rfl (fun _ _ _ h => h) ?_; intro a298 hE299; clear hE295
            refine d_done (by kernel_rfl) ?_
            have hE300 := hE299.sub (L' := [(2, .slice imagesA images.length imagesC), (4, .pointer (some ⟨b10, 0, none⟩)), (11, .pointer (some ⟨b179, 0, none⟩)), (12, .slice b200 ((images).length) c201), (63, .bool (!(decide ((fp0, fp1) = (fp0, fp1)))))]) ⟨rfl, rfl, rfl, rfl, rfl, trivial⟩; clear hE299
            refine p_tn ?_
            refine c_cond hE300 rfl (fun ht301 => ?_) (fun ht301 => ?_)
            ·
              have ht302 := bn_t ht301
              have hp303 := of_decide_eq_false ht302
              have hE304 := hE300; rw [ht301] at hE304; clear hE300
              refine c_seq ?_
              refine c_reg ?_
              refine q_step (v := .bool false) hE304 (y_assign rfl) rfl rfl rfl ?_; intro a305 hE306; clear hE304
              refine c_nil ?_
              have hE307 := hE306.sub (L' := [(6, .bool false)]) ⟨rfl, trivial⟩; clear hE306
              refine p_tn ?_
              refine wp_ret ?_
              refine p_tr ?_
              have hF : F_l_FnExactIsMorphism fp0 fp1 gp0 gp1 images = false := by unfold F_l_FnExactIsMorphism; rw [ht301, ht266, ht82, ht55, ht26]; first | done | rfl
              refine c_ret1 hE307 rfl rfl ?_
              exact ⟨(by rw [hF]; first | done | rfl), hS296.ext⟩
            ·
              have ht308 := bn_f ht301
              have hp309 := of_decide_eq_true ht308
              have hE310 := hE300; rw [ht301] at hE310; clear hE300
              refine wp_skip ?_
              refine p_tn ?_
              refine c_seq ?_
              refine c_seq ?_
              refine d_start (fun w' => w'.heap[b179]? = some (.cells #[.int .i64 gp0, .slice b176 ((gp1).length) c177] 53 (0, 0)) ∧ w'.heap[b10]? = some (.cells #[.int .i64 gp0, .slice gp1A gp1.length gp1C] 51 (0, 0)) ∧ True) [0, 1] 5 (by kernel_rfl) rfl ?_
              intro w311 he312; have hS313 := St.go hS296 he312; clear hS296
              refine d_take (v := .agg #[.int .i64 gp0, .slice b176 ((gp1).length) c177]) 0 rfl hE310 ⟨(St.row (i := 3) hS313 rfl _ (Ext.refl _)), (St.row (i := 10) hS313 rfl _ (Ext.refl _)), trivial⟩ (y_loadS Try.underlying53 rfl (by kernel_rfl) rfl (fun _ h => h.1)) rfl rfl (by kernel_rfl) (by kernel_rfl) (by kernel_rfl) rfl rfl (fun _ _ _ h => h) ?_; intro a314 hE315; clear hE310
              refine d_take (v := .agg #[.int .i64 gp0, .slice gp1A gp1.length gp1C]) 1 rfl hE315 ⟨(St.row (i := 3) hS313 rfl _ (Ext.refl _)), (St.row (i := 10) hS313 rfl _ (Ext.refl _)), trivial⟩ (y_loadS Try.underlying51 rfl (by kernel_rfl) rfl (fun _ h => h.2.1)) rfl rfl (by kernel_rfl) (by kernel_rfl) (by kernel_rfl) rfl rfl (fun _ _ _ h => h) ?_; intro a316 hE317; clear hE315
              refine d_only 2 (by kernel_rfl) rfl hE317 rfl (l_call (f := 38) (argv := [.agg #[.int .i64 gp0, .slice gp1A gp1.length gp1C]]) hE317 (fun _ => cf_l_toFrame _ _) rfl rfl (d_l_toFrame gp0 gp1A gp1.length gp1C gp1 w311 (St.rdR (i := 9) hS313 rfl) (by first | omega | (simp only [marked_len]; omega))) ?_)
              rintro _ w319 ⟨b324, c325, rfl, ho326, he323⟩ a320 hE321; clear hE317
              have hS322 := St.own hS313 he323 ho326; clear hS313
              refine ⟨fun _ _ => ⟨(St.row (i := 4) hS322 rfl _ (Ext.refl _)), (St.row (i := 11) hS322 rfl _ (Ext.refl _)), trivial⟩, ?_⟩
              refine d_only 3 (by kernel_rfl) rfl hE321 rfl (l_call (f := 40) (argv := [.agg #[.int .i64 gp0, .slice b176 ((gp1).length) c177], .agg #[.int .i64 gp0, .slice b324 ((gp1).length) c325]]) hE321 (fun _ => cf_l_eqFrame _ _) rfl rfl (d_l_eqFrame gp0 b176 ((gp1).length) c177 gp1 gp0 b324 ((gp1).length) c325 gp1 w319 (St.rdO (i := 3) hS322 rfl) (St.rdO (i := 0) hS322 rfl)) ?_)
              rintro _ w328 ⟨rfl, he332⟩ a329 hE330; clear hE321
              have hS331 := St.go hS322 he332; clear hS322
              refine ⟨fun _ _ => ⟨(St.row (i := 4) hS331 rfl _ (Ext.refl _)), (St.row (i := 11) hS331 rfl _ (Ext.refl _)), trivial⟩, ?_⟩
              refine d_pure (v := .bool (!(decide ((gp0, gp1) = (gp0, gp1))))) 4 rfl hE330 (y_not rfl) rfl (by kernel_rfl) (by kernel_rfl) (by kernel_rfl) rfl rfl (fun _ _ _ h => h) ?_; intro a333 hE334; clear hE330
              refine d_done (by kernel_rfl) ?_
              have hE335 := hE334.sub (L' := [(2, .slice imagesA images.length imagesC), (12, .slice b200 ((images).length) c201), (68, .bool (!(decide ((gp0, gp1) = (gp0, gp1)))))]) ⟨rfl, rfl, rfl, trivial⟩; clear hE334
              refine p_tn ?_
              refine c_cond hE335 rfl (fun ht336 => ?_) (fun ht336 => ?_)
              ·
                have ht337 := bn_t ht336
                have hp338 := of_decide_eq_false ht337
                have hE339 := hE335; rw [ht336] at hE339; clear hE335
                refine c_seq ?_
                refine c_reg ?_
                refine q_step (v := .bool false) hE339 (y_assign rfl) rfl rfl rfl ?_; intro a340 hE341; clear hE339
                refine c_nil ?_
                have hE342 := hE341.sub (L' := [(6, .bool false)]) ⟨rfl, trivial⟩; clear hE341
                refine p_tn ?_
                refine wp_ret ?_
                refine p_tr ?_
                have hF : F_l_FnExactIsMorphism fp0 fp1 gp0 gp1 images = false := by unfold F_l_FnExactIsMorphism; rw [ht336, ht301, ht266, ht82, ht55, ht26]; first | done | rfl
                refine c_ret1 hE342 rfl rfl ?_
                exact ⟨(by rw [hF]; first | done | rfl), hS331.ext⟩
              ·
                have ht343 := bn_f ht336
                have hp344 := of_decide_eq_true ht343
                have hE345 := hE335; rw [ht336] at hE345; clear hE335
                refine wp_skip ?_
                refine p_tn ?_
                refine c_seq ?_
                refine c_seq ?_
                refine c_reg ?_
                refine q_step (v := .slice b200 ((images).length) c201) hE345 (y_move rfl) rfl rfl rfl ?_; intro a346 hE347; clear hE345
                refine q_step (v := .slice imagesA images.length imagesC) hE347 (y_move rfl) rfl rfl rfl ?_; intro a348 hE349; clear hE347
                refine l_step hE349 rfl (l_call (f := 21) (argv := [.slice imagesA images.length imagesC]) hE349 (fun _ => cf_l_toInt64S _ _) rfl rfl (d_l_toInt64S imagesA images.length imagesC images w328 (St.rdR (i := 14) hS331 rfl) (by first | omega | (simp only [marked_len]; omega))) ?_)
                rintro _ w351 ⟨b356, c357, rfl, ho358, he355⟩ a352 hE353; clear hE349
                have hS354 := St.own hS331 he355 ho358; clear hS331
                refine l_step hE353 rfl (l_call (f := 23) (argv := [.slice b200 ((images).length) c201, .slice b356 ((images).length) c357]) hE353 (fun _ => cf_l_eqInt64S _ _) rfl rfl (d_l_eqInt64S b200 ((images).length) c201 images b356 ((images).length) c357 images w351 (St.rdO (i := 3) hS354 rfl) (St.rdO (i := 0) hS354 rfl)) ?_)
                rintro _ w360 ⟨rfl, he364⟩ a361 hE362; clear hE353
                have hS363 := St.go hS354 he364; clear hS354
                refine q_step (v := .bool (!(decide (images = images)))) hE362 (y_not rfl) rfl rfl rfl ?_; intro a365 hE366; clear hE362
                refine c_nil ?_
                have hE367 := hE366.sub (L' := [(73, .bool (!(decide (images = images))))]) ⟨rfl, trivial⟩; clear hE366
                refine p_tn ?_
                refine c_cond hE367 rfl (fun ht368 => ?_) (fun ht368 => ?_)
                ·
                  have ht369 := bn_t ht368
                  have hp370 := of_decide_eq_false ht369
                  have hE371 := hE367; rw [ht368] at hE371; clear hE367
                  refine c_seq ?_
                  refine c_reg ?_
                  refine q_step (v := .bool false) hE371 (y_assign rfl) rfl rfl rfl ?_; intro a372 hE373; clear hE371
                  refine c_nil ?_
                  have hE374 := hE373.sub (L' := [(6, .bool false)]) ⟨rfl, trivial⟩; clear hE373
                  refine p_tn ?_
                  refine wp_ret ?_
                  refine p_tr ?_
                  have hF : F_l_FnExactIsMorphism fp0 fp1 gp0 gp1 images = false := by unfold F_l_FnExactIsMorphism; rw [ht368, ht336, ht301, ht266, ht82, ht55, ht26]; first | done | rfl
                  refine c_ret1 hE374 rfl rfl ?_
                  exact ⟨(by rw [hF]; first | done | rfl), hS363.ext⟩
                ·
                  have ht375 := bn_f ht368
                  have hp376 := of_decide_eq_true ht375
                  have hE377 := hE367; rw [ht368] at hE377; clear hE367
                  refine wp_skip ?_
                  refine p_tn ?_
                  refine c_seq ?_
                  refine c_reg ?_
                  refine q_step (v := .bool true) hE377 (y_assign rfl) rfl rfl rfl ?_; intro a378 hE379; clear hE377
                  refine c_nil ?_
                  have hE380 := hE379.sub (L' := [(6, .bool true)]) ⟨rfl, trivial⟩; clear hE379
                  refine p_tn ?_
                  refine wp_ret ?_
                  have hF : F_l_FnExactIsMorphism fp0 fp1 gp0 gp1 images = true := by unfold F_l_FnExactIsMorphism; rw [ht368, ht336, ht301, ht266, ht82, ht55, ht26]; first | done | rfl
                  refine c_ret1 hE380 rfl rfl ?_
                  exact ⟨(by rw [hF]; first | done | rfl), hS363.ext⟩

theorem FnExactIsMorphism_true (fp0 : Int) (fp1 : List Int) (gp0 : Int) (gp1 : List Int) (images : List Int) : F_l_FnExactIsMorphism fp0 fp1 gp0 gp1 images = true := by
  unfold F_l_FnExactIsMorphism
  rw [IsMorphism_eq]
  have h1 : decide (1 + (fp1.length : Int) + (gp1.length : Int) + (images.length : Int) < 0) = false := decide_eq_false (by omega)
  simp [h1]

end Go.Proofs.Ytfilpikakdlgbaa
