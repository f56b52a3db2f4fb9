/- GLRT: models and contracts, printed by wip/gen/gen.py -/
import Derived.Test.YtlbonhloeefnmaaGAM
import Derived.Test.YtlbonhloeefnmaaGRT
set_option linter.unusedVariables false
set_option linter.unusedSimpArgs false
namespace Go.Proofs.Ytlbonhloeefnmaa
open Go.RowKit

def F_l_FnExactRoundsToTell (mp0 : Int) (mp1 : List Int) (mp2 : List Int) (xq : Int) (np0 : Int) (np1 : List Int) (np2 : List Int) (yq : Int) : Bool :=
  bif (decide ((F_l_szModel mp0 mp1 mp2 1048576) < 0)) then true else (bif (decide ((F_l_szModel np0 np1 np2 (F_l_szModel mp0 mp1 mp2 1048576)) < 0)) then true else (bif ((!decide (((F_RoundsToTell mp0 mp1 mp2 xq np0 np1 np2 yq).1) = ((F_s_RoundsToTell mp0 mp1 mp2 xq np0 np1 np2 yq).1))) || (!decide (((F_RoundsToTell mp0 mp1 mp2 xq np0 np1 np2 yq).2) = ((F_s_RoundsToTell mp0 mp1 mp2 xq np0 np1 np2 yq).2)))) then false else (bif (!(decide ((mp0, mp1, mp2) = (mp0, mp1, mp2)))) then false else (bif (!(decide ((np0, np1, np2) = (np0, np1, np2)))) then false else true))))
theorem cf_l_FnExactRoundsToTell (args : Array Value) (w : World) : (callFunc 5 args).run Try.prog w = .ok (.enter 5 args) w := by kernel_rfl
set_option maxRecDepth 100000 in
theorem c_l_FnExactRoundsToTell (mp0 : Int) (mp1A : Option Addr) (mp1N mp1C : Nat) (mp1 : List Int) (mp2A : Option Addr) (mp2N mp2C : Nat) (mp2 : List Int) (xq : Int) (np0 : Int) (np1A : Option Addr) (np1N np1C : Nat) (np1 : List Int) (np2A : Option Addr) (np2N np2C : Nat) (np2 : List Int) (yq : Int) (w : World) (mp1R : RdS w 1 mp1A mp1N mp1C mp1) (mp2R : RdS w 1 mp2A mp2N mp2C mp2) (np1R : RdS w 1 np1A np1N np1C np1) (np2R : RdS w 1 np2A np2N np2C np2) :
    Calls Try.prog 5 #[.agg #[.int .i64 mp0, .slice mp1A mp1N mp1C, .slice mp2A mp2N mp2C], .int .i64 xq, .agg #[.int .i64 np0, .slice np1A np1N np1C, .slice np2A np2N np2C], .int .i64 yq] w (Ret fun v w' => v = .bool (F_l_FnExactRoundsToTell mp0 mp1 mp2 xq np0 np1 np2 yq) ∧ Ext w w') := by
  obtain rfl : mp1N = mp1.length := mp1R.len1.symm
  have mp1Le := mp1R.le
  obtain rfl : mp2N = mp2.length := mp2R.len1.symm
  have mp2Le := mp2R.le
  obtain rfl : np1N = np1.length := np1R.len1.symm
  have np1Le := np1R.le
  obtain rfl : np2N = np2.length := np2R.len1.symm
  have np2Le := np2R.le
  have hS := St.nil w
  have hS1 := St.rd0 hS rfl mp1R; clear hS
  have hS2 := St.rd0 hS1 rfl mp2R; clear hS1
  have hS3 := St.rd0 hS2 rfl np1R; clear hS2
  have hS4 := St.rd0 hS3 rfl np2R; clear hS3
  refine enter (args := [.agg #[.int .i64 mp0, .slice mp1A mp1.length mp1C, .slice mp2A mp2.length mp2C], .int .i64 xq, .agg #[.int .i64 np0, .slice np1A np1.length np1C, .slice np2A np2.length np2C], .int .i64 yq]) Try.func5 rfl rfl ?_
  rw [Try.ntmps5]; intro a hE
  have hE := hE.sub (L' := [(0, .agg #[.int .i64 mp0, .slice mp1A mp1.length mp1C, .slice mp2A mp2.length mp2C]), (1, .int .i64 xq), (2, .agg #[.int .i64 np0, .slice np1A np1.length np1C, .slice np2A np2.length np2C]), (3, .int .i64 yq)]) ⟨rfl, rfl, rfl, rfl, trivial⟩
  refine c_seq ?_
  refine c_reg ?_
  refine l_step hE rfl (l_box (v := .agg #[.int .i64 mp0, .slice mp1A mp1.length mp1C, .slice mp2A mp2.length mp2C]) (cs := #[.int .i64 mp0, .slice mp1A mp1.length mp1C, .slice mp2A mp2.length mp2C]) hS4 hE rfl rfl rfl ?_)
  intro b5 w6 hS9 he10 a7 hE8; clear hS4 hE
  refine l_step hE8 rfl (l_box (v := .agg #[.int .i64 np0, .slice np1A np1.length np1C, .slice np2A np2.length np2C]) (cs := #[.int .i64 np0, .slice np1A np1.length np1C, .slice np2A np2.length np2C]) hS9 hE8 rfl rfl rfl ?_)
  intro b11 w12 hS15 he16 a13 hE14; clear hS9 hE8
  refine q_step (v := .bool false) hE14 (y_assign rfl) rfl rfl rfl ?_; intro a17 hE18; clear hE14
  refine c_nil ?_
  have hE19 := hE18.sub (L' := [(1, .int .i64 xq), (3, .int .i64 yq), (4, .pointer (some ⟨b5, 0, none⟩)), (6, .pointer (some ⟨b11, 0, none⟩))]) ⟨rfl, rfl, rfl, rfl, trivial⟩; clear hE18
  refine p_tn ?_
  refine c_seq ?_
  refine c_reg ?_
  refine q_step (v := .int .i64 1048576) hE19 (y_assign rfl) rfl rfl rfl ?_; intro a20 hE21; clear hE19
  refine c_nil ?_
  have hE22 := hE21.sub (L' := [(1, .int .i64 xq), (3, .int .i64 yq), (4, .pointer (some ⟨b5, 0, none⟩)), (6, .pointer (some ⟨b11, 0, none⟩)), (9, .int .i64 1048576)]) ⟨rfl, rfl, rfl, rfl, rfl, trivial⟩; clear hE21
  refine p_tn ?_
  refine c_seq ?_
  refine c_reg ?_
  refine q_step (v := .agg #[.int .i64 mp0, .slice mp1A mp1.length mp1C, .slice mp2A mp2.length mp2C]) hE22 (y_loadS Try.underlying26 rfl (by kernel_rfl) rfl (St.row (i := 1) hS15 rfl)) rfl rfl rfl ?_; intro a23 hE24; clear hE22
  refine q_step (v := .int .i64 1048576) hE24 (y_move rfl) rfl rfl rfl ?_; intro a25 hE26; clear hE24
  refine l_step hE26 rfl (l_call (f := 15) (argv := [.agg #[.int .i64 mp0, .slice mp1A mp1.length mp1C, .slice mp2A mp2.length mp2C], .int .i64 1048576]) hE26 (fun _ => cf_l_szModel _ _) rfl rfl (c_l_szModel mp0 mp1A mp1.length mp1C mp1 mp2A mp2.length mp2C mp2 1048576 w12 (St.rdR (i := 5) hS15 rfl) (St.rdR (i := 4) hS15 rfl) (by first | omega | (simp only [marked_len]; omega) | (simp only [marked_len] at *; omega)) (by first | omega | (simp only [marked_len]; omega) | (simp only [marked_len] at *; omega))) ?_)
  rintro _ w28 ⟨rfl, he32⟩ a29 hE30; clear hE26
  have hS31 := St.go hS15 he32; clear hS15
  refine q_step (v := .int .i64 (F_l_szModel mp0 mp1 mp2 1048576)) hE30 (y_assign rfl) rfl rfl rfl ?_; intro a33 hE34; clear hE30
  refine c_nil ?_
  have hE35 := hE34.sub (L' := [(1, .int .i64 xq), (3, .int .i64 yq), (4, .pointer (some ⟨b5, 0, none⟩)), (6, .pointer (some ⟨b11, 0, none⟩)), (9, .int .i64 (F_l_szModel mp0 mp1 mp2 1048576))]) ⟨rfl, rfl, rfl, rfl, rfl, trivial⟩; clear hE34
  refine p_tn ?_
  refine c_seq ?_
  refine c_seq ?_
  refine c_reg ?_
  refine q_step (v := .int .i64 (F_l_szModel mp0 mp1 mp2 1048576)) hE35 (y_move rfl) rfl rfl rfl ?_; intro a36 hE37; clear hE35
  refine q_step (v := .bool (decide ((F_l_szModel mp0 mp1 mp2 1048576) < 0))) hE37 (y_lss rfl rfl) rfl rfl rfl ?_; intro a38 hE39; clear hE37
  refine c_nil ?_
  have hE40 := hE39.sub (L' := [(1, .int .i64 xq), (3, .int .i64 yq), (4, .pointer (some ⟨b5, 0, none⟩)), (6, .pointer (some ⟨b11, 0, none⟩)), (9, .int .i64 (F_l_szModel mp0 mp1 mp2 1048576)), (20, .bool (decide ((F_l_szModel mp0 mp1 mp2 1048576) < 0)))]) ⟨rfl, rfl, rfl, rfl, rfl, rfl, trivial⟩; clear hE39
  refine p_tn ?_
  refine c_cond hE40 rfl (fun ht41 => ?_) (fun ht41 => ?_)
  ·
    have hp42 := of_decide_eq_true ht41
    have hE43 := hE40; rw [ht41] at hE43; clear hE40
    refine c_seq ?_
    refine c_reg ?_
    refine q_step (v := .bool true) hE43 (y_assign rfl) rfl rfl rfl ?_; intro a44 hE45; clear hE43
    refine c_nil ?_
    have hE46 := hE45.sub (L' := [(8, .bool true)]) ⟨rfl, trivial⟩; clear hE45
    refine p_tn ?_
    refine wp_ret ?_
    refine p_tr ?_
    have hF : F_l_FnExactRoundsToTell mp0 mp1 mp2 xq np0 np1 np2 yq = true := by unfold F_l_FnExactRoundsToTell; rw [ht41]; first | done | rfl
    refine c_ret1 hE46 rfl rfl ?_
    exact ⟨(by rw [hF]; first | done | (dsimp only; done) | rfl), hS31.ext⟩
  ·
    have hp47 := of_decide_eq_false ht41
    have hq48 := szModel_bound hp47
    have hE49 := hE40; rw [ht41] at hE49; clear hE40
    refine wp_skip ?_
    refine p_tn ?_
    refine c_seq ?_
    refine c_reg ?_
    refine q_step (v := .agg #[.int .i64 np0, .slice np1A np1.length np1C, .slice np2A np2.length np2C]) hE49 (y_loadS Try.underlying26 rfl (by kernel_rfl) rfl (St.row (i := 0) hS31 rfl)) rfl rfl rfl ?_; intro a50 hE51; clear hE49
    refine q_step (v := .int .i64 (F_l_szModel mp0 mp1 mp2 1048576)) hE51 (y_move rfl) rfl rfl rfl ?_; intro a52 hE53; clear hE51
    refine l_step hE53 rfl (l_call (f := 15) (argv := [.agg #[.int .i64 np0, .slice np1A np1.length np1C, .slice np2A np2.length np2C], .int .i64 (F_l_szModel mp0 mp1 mp2 1048576)]) hE53 (fun _ => cf_l_szModel _ _) rfl rfl (c_l_szModel np0 np1A np1.length np1C np1 np2A np2.length np2C np2 (F_l_szModel mp0 mp1 mp2 1048576) w28 (St.rdR (i := 3) hS31 rfl) (St.rdR (i := 2) hS31 rfl) (by first | omega | (simp only [marked_len]; omega) | (simp only [marked_len] at *; omega)) (by first | omega | (simp only [marked_len]; omega) | (simp only [marked_len] at *; omega))) ?_)
    rintro _ w55 ⟨rfl, he59⟩ a56 hE57; clear hE53
    have hS58 := St.go hS31 he59; clear hS31
    refine q_step (v := .int .i64 (F_l_szModel np0 np1 np2 (F_l_szModel mp0 mp1 mp2 1048576))) hE57 (y_assign rfl) rfl rfl rfl ?_; intro a60 hE61; clear hE57
    refine c_nil ?_
    have hE62 := hE61.sub (L' := [(1, .int .i64 xq), (3, .int .i64 yq), (4, .pointer (some ⟨b5, 0, none⟩)), (6, .pointer (some ⟨b11, 0, none⟩)), (9, .int .i64 (F_l_szModel np0 np1 np2 (F_l_szModel mp0 mp1 mp2 1048576)))]) ⟨rfl, rfl, rfl, rfl, rfl, trivial⟩; clear hE61
    refine p_tn ?_
    refine c_seq ?_
    refine c_seq ?_
    refine c_reg ?_
    refine q_step (v := .int .i64 (F_l_szModel np0 np1 np2 (F_l_szModel mp0 mp1 mp2 1048576))) hE62 (y_move rfl) rfl rfl rfl ?_; intro a63 hE64; clear hE62
    refine q_step (v := .bool (decide ((F_l_szModel np0 np1 np2 (F_l_szModel mp0 mp1 mp2 1048576)) < 0))) hE64 (y_lss rfl rfl) rfl rfl rfl ?_; intro a65 hE66; clear hE64
    refine c_nil ?_
    have hE67 := hE66.sub (L' := [(1, .int .i64 xq), (3, .int .i64 yq), (4, .pointer (some ⟨b5, 0, none⟩)), (6, .pointer (some ⟨b11, 0, none⟩)), (25, .bool (decide ((F_l_szModel np0 np1 np2 (F_l_szModel mp0 mp1 mp2 1048576)) < 0)))]) ⟨rfl, rfl, rfl, rfl, rfl, trivial⟩; clear hE66
    refine p_tn ?_
    refine c_cond hE67 rfl (fun ht68 => ?_) (fun ht68 => ?_)
    ·
      have hp69 := of_decide_eq_true ht68
      have hE70 := hE67; rw [ht68] at hE70; clear hE67
      refine c_seq ?_
      refine c_reg ?_
      refine q_step (v := .bool true) hE70 (y_assign rfl) rfl rfl rfl ?_; intro a71 hE72; clear hE70
      refine c_nil ?_
      have hE73 := hE72.sub (L' := [(8, .bool true)]) ⟨rfl, trivial⟩; clear hE72
      refine p_tn ?_
      refine wp_ret ?_
      refine p_tr ?_
      have hF : F_l_FnExactRoundsToTell mp0 mp1 mp2 xq np0 np1 np2 yq = true := by unfold F_l_FnExactRoundsToTell; rw [ht68, ht41]; first | done | rfl
      refine c_ret1 hE73 rfl rfl ?_
      exact ⟨(by rw [hF]; first | done | (dsimp only; done) | rfl), hS58.ext⟩
    ·
      have hp74 := of_decide_eq_false ht68
      have hq75 := szModel_bound hp74
      have hE76 := hE67; rw [ht68] at hE76; clear hE67
      refine wp_skip ?_
      refine p_tn ?_
      refine c_seq ?_
      refine d_start (fun w w' => (fun w' => w'.heap[b5]? = some (.cells #[.int .i64 mp0, .slice mp1A mp1.length mp1C, .slice mp2A mp2.length mp2C] 26 (0, 0)) ∧ w'.heap[b11]? = some (.cells #[.int .i64 np0, .slice np1A np1.length np1C, .slice np2A np2.length np2C] 26 (0, 0)) ∧ True) w → (fun w' => w'.heap[b5]? = some (.cells #[.int .i64 mp0, .slice mp1A mp1.length mp1C, .slice mp2A mp2.length mp2C] 26 (0, 0)) ∧ w'.heap[b11]? = some (.cells #[.int .i64 np0, .slice np1A np1.length np1C, .slice np2A np2.length np2C] 26 (0, 0)) ∧ True) w') [0, 3] 12 (by kernel_rfl) rfl ?_
      intro w77 he78; have hS79 := St.go hS58 he78; clear hS58
      refine d_take (fun _ h => h) (fun _ _ h k => h k) (v := .agg #[.int .i64 mp0, .slice mp1A mp1.length mp1C, .slice mp2A mp2.length mp2C]) 0 rfl hE76 (S := fun w' => w'.heap[b5]? = some (.cells #[.int .i64 mp0, .slice mp1A mp1.length mp1C, .slice mp2A mp2.length mp2C] 26 (0, 0)) ∧ w'.heap[b11]? = some (.cells #[.int .i64 np0, .slice np1A np1.length np1C, .slice np2A np2.length np2C] 26 (0, 0)) ∧ True) ⟨(St.row (i := 1) hS79 rfl _ (Ext.refl _)), (St.row (i := 0) hS79 rfl _ (Ext.refl _)), trivial⟩ (y_loadS Try.underlying26 rfl (by kernel_rfl) rfl (fun _ h => h.1)) rfl rfl (by kernel_rfl) (by kernel_rfl) (by kernel_rfl) (by kernel_rfl) rfl rfl (fun _ _ _ h => h) ?_; intro a80 hE81; clear hE76
      refine d_pure (fun _ h => h) (v := .int .i64 xq) 2 rfl hE81 (y_move rfl) rfl (by kernel_rfl) (by kernel_rfl) (by kernel_rfl) rfl rfl (fun _ _ _ h => h) ?_; intro a82 hE83; clear hE81
      refine d_take (fun _ h => h) (fun _ _ h k => h k) (v := .agg #[.int .i64 np0, .slice np1A np1.length np1C, .slice np2A np2.length np2C]) 3 rfl hE83 (S := fun w' => w'.heap[b5]? = some (.cells #[.int .i64 mp0, .slice mp1A mp1.length mp1C, .slice mp2A mp2.length mp2C] 26 (0, 0)) ∧ w'.heap[b11]? = some (.cells #[.int .i64 np0, .slice np1A np1.length np1C, .slice np2A np2.length np2C] 26 (0, 0)) ∧ True) ⟨(St.row (i := 1) hS79 rfl _ (Ext.refl _)), (St.row (i := 0) hS79 rfl _ (Ext.refl _)), trivial⟩ (y_loadS Try.underlying26 rfl (by kernel_rfl) rfl (fun _ h => h.2.1)) rfl rfl (by kernel_rfl) (by kernel_rfl) (by kernel_rfl) (by kernel_rfl) rfl rfl (fun _ _ _ h => h) ?_; intro a84 hE85; clear hE83
      refine d_pure (fun _ h => h) (v := .int .i64 yq) 5 rfl hE85 (y_move rfl) rfl (by kernel_rfl) (by kernel_rfl) (by kernel_rfl) rfl rfl (fun _ _ _ h => h) ?_; intro a86 hE87; clear hE85
      refine d_only 1 (by kernel_rfl) rfl hE87 rfl (l_call (f := 17) (argv := [.agg #[.int .i64 mp0, .slice mp1A mp1.length mp1C, .slice mp2A mp2.length mp2C]]) hE87 (fun _ => cf_l_toModel _ _) rfl rfl (d_l_toModel mp0 mp1A mp1.length mp1C mp1 mp2A mp2.length mp2C mp2 w77 (St.rdR (i := 5) hS79 rfl) (St.rdR (i := 4) hS79 rfl) (by first | omega | (simp only [marked_len]; omega) | (simp only [marked_len] at *; omega)) (by first | omega | (simp only [marked_len]; omega) | (simp only [marked_len] at *; omega))) ?_)
      rintro _ w89 ⟨b94, c95, b96, c97, rfl, ho98, he93⟩ a90 hE91; clear hE87
      have hS92 := St.push2 hS79 he93 ho98; clear hS79
      refine ⟨fun _ _ => ⟨(St.row (i := 3) hS92 rfl _ (Ext.refl _)), (St.row (i := 2) hS92 rfl _ (Ext.refl _)), trivial⟩, ?_⟩
      refine d_only 4 (by kernel_rfl) rfl hE91 rfl (l_call (f := 17) (argv := [.agg #[.int .i64 np0, .slice np1A np1.length np1C, .slice np2A np2.length np2C]]) hE91 (fun _ => cf_l_toModel _ _) rfl rfl (d_l_toModel np0 np1A np1.length np1C np1 np2A np2.length np2C np2 w89 (St.rdR (i := 5) hS92 rfl) (St.rdR (i := 4) hS92 rfl) (by first | omega | (simp only [marked_len]; omega) | (simp only [marked_len] at *; omega)) (by first | omega | (simp only [marked_len]; omega) | (simp only [marked_len] at *; omega))) ?_)
      rintro _ w101 ⟨b106, c107, b108, c109, rfl, ho110, he105⟩ a102 hE103; clear hE91
      have hS104 := St.push2 hS92 he105 ho110; clear hS92
      refine ⟨fun h => Bool.noConfusion (h.symm.trans (show exm _ _ _ = true by kernel_rfl)), ?_⟩
      refine d_only 6 (by kernel_rfl) rfl hE103 rfl (l_call (f := 26) (argv := [.agg #[.int .i64 mp0, .slice b94 ((mp1).length) c95, .slice b96 ((mp2).length) c97], .int .i64 xq, .agg #[.int .i64 np0, .slice b106 ((np1).length) c107, .slice b108 ((np2).length) c109], .int .i64 yq]) hE103 (fun _ => cf_s_RoundsToTell _ _) rfl rfl (c_s_RoundsToTell mp0 b94 ((mp1).length) c95 mp1 b96 ((mp2).length) c97 mp2 xq np0 b106 ((np1).length) c107 np1 b108 ((np2).length) c109 np2 yq w101 (St.rdO (i := 2) hS104 rfl) (St.rdO (i := 3) hS104 rfl) (St.rdO (i := 0) hS104 rfl) (St.rdO (i := 1) hS104 rfl)) ?_)
      rintro _ w113 ⟨rfl, he117⟩ a114 hE115; clear hE103
      have hS116 := St.go hS104 he117; clear hS104
      refine ⟨fun h => Bool.noConfusion (h.symm.trans (show exm _ _ _ = true by kernel_rfl)), ?_⟩
      refine d_pure (fun _ h => h) (v := .tuple #[.int .i64 ((F_s_RoundsToTell mp0 mp1 mp2 xq np0 np1 np2 yq).1), .int .i64 ((F_s_RoundsToTell mp0 mp1 mp2 xq np0 np1 np2 yq).2)]) 7 rfl hE115 (y_move rfl) rfl (by kernel_rfl) (by kernel_rfl) (by kernel_rfl) rfl rfl (fun _ _ _ h => h) ?_; intro a118 hE119; clear hE115
      refine d_pure (fun _ h => h) (v := .int .i64 ((F_s_RoundsToTell mp0 mp1 mp2 xq np0 np1 np2 yq).1)) 8 rfl hE119 (y_extract rfl rfl) rfl (by kernel_rfl) (by kernel_rfl) (by kernel_rfl) rfl rfl (fun _ _ _ h => h) ?_; intro a120 hE121; clear hE119
      refine d_pure (fun _ h => h) (v := .int .i64 ((F_s_RoundsToTell mp0 mp1 mp2 xq np0 np1 np2 yq).2)) 9 rfl hE121 (y_extract rfl rfl) rfl (by kernel_rfl) (by kernel_rfl) (by kernel_rfl) rfl rfl (fun _ _ _ h => h) ?_; intro a122 hE123; clear hE121
      refine d_pure (fun _ h => h) (v := .int .i64 ((F_s_RoundsToTell mp0 mp1 mp2 xq np0 np1 np2 yq).1)) 10 rfl hE123 (y_assign rfl) rfl (by kernel_rfl) (by kernel_rfl) (by kernel_rfl) rfl rfl (fun _ _ _ h => h) ?_; intro a124 hE125; clear hE123
      refine d_pure (fun _ h => h) (v := .int .i64 ((F_s_RoundsToTell mp0 mp1 mp2 xq np0 np1 np2 yq).2)) 11 rfl hE125 (y_assign rfl) rfl (by kernel_rfl) (by kernel_rfl) (by kernel_rfl) rfl rfl (fun _ _ _ h => h) ?_; intro a126 hE127; clear hE125
      refine d_done (by kernel_rfl) ?_
      have hE128 := hE127.sub (L' := [(1, .int .i64 xq), (3, .int .i64 yq), (4, .pointer (some ⟨b5, 0, none⟩)), (6, .pointer (some ⟨b11, 0, none⟩)), (10, .int .i64 ((F_s_RoundsToTell mp0 mp1 mp2 xq np0 np1 np2 yq).1)), (11, .int .i64 ((F_s_RoundsToTell mp0 mp1 mp2 xq np0 np1 np2 yq).2))]) ⟨rfl, rfl, rfl, rfl, rfl, rfl, trivial⟩; clear hE127
      refine p_tn ?_
      refine c_seq ?_
      refine c_reg ?_
      refine q_step (v := .agg #[.int .i64 mp0, .slice mp1A mp1.length mp1C, .slice mp2A mp2.length mp2C]) hE128 (y_loadS Try.underlying26 rfl (by kernel_rfl) rfl (St.row (i := 5) hS116 rfl)) rfl rfl rfl ?_; intro a129 hE130; clear hE128
      refine l_step hE130 rfl (l_call (f := 17) (argv := [.agg #[.int .i64 mp0, .slice mp1A mp1.length mp1C, .slice mp2A mp2.length mp2C]]) hE130 (fun _ => cf_l_toModel _ _) rfl rfl (d_l_toModel mp0 mp1A mp1.length mp1C mp1 mp2A mp2.length mp2C mp2 w113 (St.rdR (i := 9) hS116 rfl) (St.rdR (i := 8) hS116 rfl) (by first | omega | (simp only [marked_len]; omega) | (simp only [marked_len] at *; omega)) (by first | omega | (simp only [marked_len]; omega) | (simp only [marked_len] at *; omega))) ?_)
      rintro _ w132 ⟨b137, c138, b139, c140, rfl, ho141, he136⟩ a133 hE134; clear hE130
      have hS135 := St.push2 hS116 he136 ho141; clear hS116
      refine l_step hE134 rfl (l_alloc (z := .agg #[.int .i64 0, .slice none 0 0, .slice none 0 0]) (cs := #[.int .i64 0, .slice none 0 0, .slice none 0 0]) hS135 hE134 (fun _ => by kernel_rfl) rfl rfl ?_)
      intro b143 w144 hS147 he148 a145 hE146; clear hS135 hE134
      refine l_step hE146 rfl (l_storeS (k := 0) (cs' := #[.int .i64 mp0, .slice b137 ((mp1).length) c138, .slice b139 ((mp2).length) c140]) hS147 hE146 (by kernel_rfl) rfl rfl (by kernel_rfl) rfl rfl ?_)
      intro w150 hS153 a151 hE152; clear hS147 hE146
      refine c_nil ?_
      have hE155 := hE152.sub (L' := [(1, .int .i64 xq), (3, .int .i64 yq), (4, .pointer (some ⟨b5, 0, none⟩)), (6, .pointer (some ⟨b11, 0, none⟩)), (10, .int .i64 ((F_s_RoundsToTell mp0 mp1 mp2 xq np0 np1 np2 yq).1)), (11, .int .i64 ((F_s_RoundsToTell mp0 mp1 mp2 xq np0 np1 np2 yq).2)), (12, .pointer (some ⟨b143, 0, none⟩))]) ⟨rfl, rfl, rfl, rfl, rfl, rfl, rfl, trivial⟩; clear hE152
      refine p_tn ?_
      refine c_seq ?_
      refine c_reg ?_
      refine q_step (v := .agg #[.int .i64 np0, .slice np1A np1.length np1C, .slice np2A np2.length np2C]) hE155 (y_loadS Try.underlying26 rfl (by kernel_rfl) rfl (St.row (i := 7) hS153 rfl)) rfl rfl rfl ?_; intro a156 hE157; clear hE155
      refine l_step hE157 rfl (l_call (f := 17) (argv := [.agg #[.int .i64 np0, .slice np1A np1.length np1C, .slice np2A np2.length np2C]]) hE157 (fun _ => cf_l_toModel _ _) rfl rfl (d_l_toModel np0 np1A np1.length np1C np1 np2A np2.length np2C np2 w150 (St.rdR (i := 10) hS153 rfl) (St.rdR (i := 9) hS153 rfl) (by first | omega | (simp only [marked_len]; omega) | (simp only [marked_len] at *; omega)) (by first | omega | (simp only [marked_len]; omega) | (simp only [marked_len] at *; omega))) ?_)
      rintro _ w159 ⟨b164, c165, b166, c167, rfl, ho168, he163⟩ a160 hE161; clear hE157
      have hS162 := St.push2 hS153 he163 ho168; clear hS153
      refine l_step hE161 rfl (l_alloc (z := .agg #[.int .i64 0, .slice none 0 0, .slice none 0 0]) (cs := #[.int .i64 0, .slice none 0 0, .slice none 0 0]) hS162 hE161 (fun _ => by kernel_rfl) rfl rfl ?_)
      intro b170 w171 hS174 he175 a172 hE173; clear hS162 hE161
      refine l_step hE173 rfl (l_storeS (k := 0) (cs' := #[.int .i64 np0, .slice b164 ((np1).length) c165, .slice b166 ((np2).length) c167]) hS174 hE173 (by kernel_rfl) rfl rfl (by kernel_rfl) rfl rfl ?_)
      intro w177 hS180 a178 hE179; clear hS174 hE173
      refine c_nil ?_
      have hE182 := hE179.sub (L' := [(1, .int .i64 xq), (3, .int .i64 yq), (4, .pointer (some ⟨b5, 0, none⟩)), (6, .pointer (some ⟨b11, 0, none⟩)), (10, .int .i64 ((F_s_RoundsToTell mp0 mp1 mp2 xq np0 np1 np2 yq).1)), (11, .int .i64 ((F_s_RoundsToTell mp0 mp1 mp2 xq np0 np1 np2 yq).2)), (12, .pointer (some ⟨b143, 0, none⟩)), (13, .pointer (some ⟨b170, 0, none⟩))]) ⟨rfl, rfl, rfl, rfl, rfl, rfl, rfl, rfl, trivial⟩; clear hE179
      refine p_tn ?_
      refine c_seq ?_
      refine c_reg ?_
      refine q_step (v := .agg #[.int .i64 mp0, .slice b137 ((mp1).length) c138, .slice b139 ((mp2).length) c140]) hE182 (y_loadS Try.underlying32 rfl (by kernel_rfl) rfl (St.row (i := 3) hS180 rfl)) rfl rfl rfl ?_; intro a183 hE184; clear hE182
      refine q_step (v := .int .i64 xq) hE184 (y_move rfl) rfl rfl rfl ?_; intro a185 hE186; clear hE184
      refine q_step (v := .agg #[.int .i64 np0, .slice b164 ((np1).length) c165, .slice b166 ((np2).length) c167]) hE186 (y_loadS Try.underlying32 rfl (by kernel_rfl) rfl (St.row (i := 0) hS180 rfl)) rfl rfl rfl ?_; intro a187 hE188; clear hE186
      refine q_step (v := .int .i64 yq) hE188 (y_move rfl) rfl rfl rfl ?_; intro a189 hE190; clear hE188
      refine l_step hE190 rfl (l_call (f := 27) (argv := [.agg #[.int .i64 mp0, .slice b137 ((mp1).length) c138, .slice b139 ((mp2).length) c140], .int .i64 xq, .agg #[.int .i64 np0, .slice b164 ((np1).length) c165, .slice b166 ((np2).length) c167], .int .i64 yq]) hE190 (fun _ => cf_RoundsToTell _ _) rfl rfl (c_RoundsToTell mp0 b137 ((mp1).length) c138 mp1 b139 ((mp2).length) c140 mp2 xq np0 b164 ((np1).length) c165 np1 b166 ((np2).length) c167 np2 yq w177 (St.rdO (i := 4) hS180 rfl) (St.rdO (i := 5) hS180 rfl) (St.rdO (i := 1) hS180 rfl) (St.rdO (i := 2) hS180 rfl)) ?_)
      rintro _ w192 ⟨rfl, he196⟩ a193 hE194; clear hE190
      have hS195 := St.go hS180 he196; clear hS180
      refine q_step (v := .tuple #[.int .i64 ((F_RoundsToTell mp0 mp1 mp2 xq np0 np1 np2 yq).1), .int .i64 ((F_RoundsToTell mp0 mp1 mp2 xq np0 np1 np2 yq).2)]) hE194 (y_move rfl) rfl rfl rfl ?_; intro a197 hE198; clear hE194
      refine q_step (v := .int .i64 ((F_RoundsToTell mp0 mp1 mp2 xq np0 np1 np2 yq).1)) hE198 (y_extract rfl rfl) rfl rfl rfl ?_; intro a199 hE200; clear hE198
      refine q_step (v := .int .i64 ((F_RoundsToTell mp0 mp1 mp2 xq np0 np1 np2 yq).2)) hE200 (y_extract rfl rfl) rfl rfl rfl ?_; intro a201 hE202; clear hE200
      refine q_step (v := .int .i64 ((F_RoundsToTell mp0 mp1 mp2 xq np0 np1 np2 yq).1)) hE202 (y_assign rfl) rfl rfl rfl ?_; intro a203 hE204; clear hE202
      refine q_step (v := .int .i64 ((F_RoundsToTell mp0 mp1 mp2 xq np0 np1 np2 yq).2)) hE204 (y_assign rfl) rfl rfl rfl ?_; intro a205 hE206; clear hE204
      refine c_nil ?_
      have hE207 := hE206.sub (L' := [(4, .pointer (some ⟨b5, 0, none⟩)), (6, .pointer (some ⟨b11, 0, none⟩)), (10, .int .i64 ((F_s_RoundsToTell mp0 mp1 mp2 xq np0 np1 np2 yq).1)), (11, .int .i64 ((F_s_RoundsToTell mp0 mp1 mp2 xq np0 np1 np2 yq).2)), (12, .pointer (some ⟨b143, 0, none⟩)), (13, .pointer (some ⟨b170, 0, none⟩)), (14, .int .i64 ((F_RoundsToTell mp0 mp1 mp2 xq np0 np1 np2 yq).1)), (15, .int .i64 ((F_RoundsToTell mp0 mp1 mp2 xq np0 np1 np2 yq).2))]) ⟨rfl, rfl, rfl, rfl, rfl, rfl, rfl, rfl, trivial⟩; clear hE206
      refine p_tn ?_
      refine c_seq ?_
      refine c_cut (fun a' w' => E a' 66 [(4, .pointer (some ⟨b5, 0, none⟩)), (6, .pointer (some ⟨b11, 0, none⟩)), (12, .pointer (some ⟨b143, 0, none⟩)), (13, .pointer (some ⟨b170, 0, none⟩)), (55, .bool ((!decide (((F_RoundsToTell mp0 mp1 mp2 xq np0 np1 np2 yq).1) = ((F_s_RoundsToTell mp0 mp1 mp2 xq np0 np1 np2 yq).1))) || (!decide (((F_RoundsToTell mp0 mp1 mp2 xq np0 np1 np2 yq).2) = ((F_s_RoundsToTell mp0 mp1 mp2 xq np0 np1 np2 yq).2)))))] ∧ St w w' [.own 2 1 b164 ((np1).length) c165 np1, .own 2 1 b166 ((np2).length) c167 np2, .blk b170 #[.int .i64 np0, .slice b164 ((np1).length) c165, .slice b166 ((np2).length) c167] 32, .own 2 1 b137 ((mp1).length) c138 mp1, .own 2 1 b139 ((mp2).length) c140 mp2, .blk b143 #[.int .i64 mp0, .slice b137 ((mp1).length) c138, .slice b139 ((mp2).length) c140] 32, .own 2 1 b106 ((np1).length) c107 np1, .own 2 1 b108 ((np2).length) c109 np2, .own 2 1 b94 ((mp1).length) c95 mp1, .own 2 1 b96 ((mp2).length) c97 mp2, .rd 1 np1A np1.length np1C np1, .rd 1 np2A np2.length np2C np2, .blk b11 #[.int .i64 np0, .slice np1A np1.length np1C, .slice np2A np2.length np2C] 26, .rd 1 mp1A mp1.length mp1C mp1, .rd 1 mp2A mp2.length mp2C mp2, .blk b5 #[.int .i64 mp0, .slice mp1A mp1.length mp1C, .slice mp2A mp2.length mp2C] 26]) ?_ ?_
      ·
        refine c_reg ?_
        refine q_step (v := .int .i64 ((F_RoundsToTell mp0 mp1 mp2 xq np0 np1 np2 yq).1)) hE207 (y_move rfl) rfl rfl rfl ?_; intro a208 hE209; clear hE207
        refine q_step (v := .int .i64 ((F_s_RoundsToTell mp0 mp1 mp2 xq np0 np1 np2 yq).1)) hE209 (y_move rfl) rfl rfl rfl ?_; intro a210 hE211; clear hE209
        refine q_step (v := .bool (!decide (((F_RoundsToTell mp0 mp1 mp2 xq np0 np1 np2 yq).1) = ((F_s_RoundsToTell mp0 mp1 mp2 xq np0 np1 np2 yq).1)))) hE211 (y_neq rfl rfl) rfl rfl rfl ?_; intro a212 hE213; clear hE211
        refine q_step (v := .bool (!decide (((F_RoundsToTell mp0 mp1 mp2 xq np0 np1 np2 yq).1) = ((F_s_RoundsToTell mp0 mp1 mp2 xq np0 np1 np2 yq).1)))) hE213 (y_move rfl) rfl rfl rfl ?_; intro a214 hE215; clear hE213
        rcases Bool.eq_false_or_eq_true (!decide (((F_RoundsToTell mp0 mp1 mp2 xq np0 np1 np2 yq).1) = ((F_s_RoundsToTell mp0 mp1 mp2 xq np0 np1 np2 yq).1))) with hb216 | hb216
        ·
          have hE217 := hE215; (try rw [hb216] at hE217); clear hE215
          have ht218 := bn_t hb216
          have hp219 := of_decide_eq_false ht218
          refine q_skip hE217 rfl rfl rfl ?_; intro a220 hE221; clear hE217
          refine q_skip hE221 rfl rfl rfl ?_; intro a222 hE223; clear hE221
          refine q_skip hE223 rfl rfl rfl ?_; intro a224 hE225; clear hE223
          refine q_step (v := .bool true) hE225 (y_pick (b := true) rfl rfl) rfl rfl rfl ?_; intro a226 hE227; clear hE225
          refine c_nil ?_
          have hE228 := hE227.sub (L' := [(4, .pointer (some ⟨b5, 0, none⟩)), (6, .pointer (some ⟨b11, 0, none⟩)), (12, .pointer (some ⟨b143, 0, none⟩)), (13, .pointer (some ⟨b170, 0, none⟩)), (55, .bool true)]) ⟨rfl, rfl, rfl, rfl, rfl, trivial⟩; clear hE227
          refine p_tn ?_
          have hE229 := hE228.sub (L' := [(4, .pointer (some ⟨b5, 0, none⟩)), (6, .pointer (some ⟨b11, 0, none⟩)), (12, .pointer (some ⟨b143, 0, none⟩)), (13, .pointer (some ⟨b170, 0, none⟩)), (55, .bool true)]) ⟨rfl, rfl, rfl, rfl, rfl, trivial⟩
          have hS230 := (St.pick (Γ' := [.own 2 1 b164 ((np1).length) c165 np1, .own 2 1 b166 ((np2).length) c167 np2, .blk b170 #[.int .i64 np0, .slice b164 ((np1).length) c165, .slice b166 ((np2).length) c167] 32, .own 2 1 b137 ((mp1).length) c138 mp1, .own 2 1 b139 ((mp2).length) c140 mp2, .blk b143 #[.int .i64 mp0, .slice b137 ((mp1).length) c138, .slice b139 ((mp2).length) c140] 32, .own 2 1 b106 ((np1).length) c107 np1, .own 2 1 b108 ((np2).length) c109 np2, .own 2 1 b94 ((mp1).length) c95 mp1, .own 2 1 b96 ((mp2).length) c97 mp2, .rd 1 np1A np1.length np1C np1, .rd 1 np2A np2.length np2C np2, .blk b11 #[.int .i64 np0, .slice np1A np1.length np1C, .slice np2A np2.length np2C] 26, .rd 1 mp1A mp1.length mp1C mp1, .rd 1 mp2A mp2.length mp2C mp2, .blk b5 #[.int .i64 mp0, .slice mp1A mp1.length mp1C, .slice mp2A mp2.length mp2C] 26]) hS195 [1, 2, 0, 4, 5, 3, 6, 7, 8, 9, 13, 12, 10, 15, 14, 11] (by decide) rfl)
          exact ⟨(by rw [hb216]; exact hE229), hS230⟩
        ·
          have hE231 := hE215; (try rw [hb216] at hE231); clear hE215
          have ht232 := bn_f hb216
          have hp233 := of_decide_eq_true ht232
          refine q_step (v := .int .i64 ((F_RoundsToTell mp0 mp1 mp2 xq np0 np1 np2 yq).2)) hE231 (y_move rfl) rfl rfl rfl ?_; intro a234 hE235; clear hE231
          refine q_step (v := .int .i64 ((F_s_RoundsToTell mp0 mp1 mp2 xq np0 np1 np2 yq).2)) hE235 (y_move rfl) rfl rfl rfl ?_; intro a236 hE237; clear hE235
          refine q_step (v := .bool (!decide (((F_RoundsToTell mp0 mp1 mp2 xq np0 np1 np2 yq).2) = ((F_s_RoundsToTell mp0 mp1 mp2 xq np0 np1 np2 yq).2)))) hE237 (y_neq rfl rfl) rfl rfl rfl ?_; intro a238 hE239; clear hE237
          refine q_step (v := .bool (!decide (((F_RoundsToTell mp0 mp1 mp2 xq np0 np1 np2 yq).2) = ((F_s_RoundsToTell mp0 mp1 mp2 xq np0 np1 np2 yq).2)))) hE239 (y_pick (b := false) rfl rfl) rfl rfl rfl ?_; intro a240 hE241; clear hE239
          refine c_nil ?_
          have hE242 := hE241.sub (L' := [(4, .pointer (some ⟨b5, 0, none⟩)), (6, .pointer (some ⟨b11, 0, none⟩)), (12, .pointer (some ⟨b143, 0, none⟩)), (13, .pointer (some ⟨b170, 0, none⟩)), (55, .bool (!decide (((F_RoundsToTell mp0 mp1 mp2 xq np0 np1 np2 yq).2) = ((F_s_RoundsToTell mp0 mp1 mp2 xq np0 np1 np2 yq).2))))]) ⟨rfl, rfl, rfl, rfl, rfl, trivial⟩; clear hE241
          refine p_tn ?_
          have hE243 := hE242.sub (L' := [(4, .pointer (some ⟨b5, 0, none⟩)), (6, .pointer (some ⟨b11, 0, none⟩)), (12, .pointer (some ⟨b143, 0, none⟩)), (13, .pointer (some ⟨b170, 0, none⟩)), (55, .bool (!decide (((F_RoundsToTell mp0 mp1 mp2 xq np0 np1 np2 yq).2) = ((F_s_RoundsToTell mp0 mp1 mp2 xq np0 np1 np2 yq).2))))]) ⟨rfl, rfl, rfl, rfl, rfl, trivial⟩
          have hS244 := (St.pick (Γ' := [.own 2 1 b164 ((np1).length) c165 np1, .own 2 1 b166 ((np2).length) c167 np2, .blk b170 #[.int .i64 np0, .slice b164 ((np1).length) c165, .slice b166 ((np2).length) c167] 32, .own 2 1 b137 ((mp1).length) c138 mp1, .own 2 1 b139 ((mp2).length) c140 mp2, .blk b143 #[.int .i64 mp0, .slice b137 ((mp1).length) c138, .slice b139 ((mp2).length) c140] 32, .own 2 1 b106 ((np1).length) c107 np1, .own 2 1 b108 ((np2).length) c109 np2, .own 2 1 b94 ((mp1).length) c95 mp1, .own 2 1 b96 ((mp2).length) c97 mp2, .rd 1 np1A np1.length np1C np1, .rd 1 np2A np2.length np2C np2, .blk b11 #[.int .i64 np0, .slice np1A np1.length np1C, .slice np2A np2.length np2C] 26, .rd 1 mp1A mp1.length mp1C mp1, .rd 1 mp2A mp2.length mp2C mp2, .blk b5 #[.int .i64 mp0, .slice mp1A mp1.length mp1C, .slice mp2A mp2.length mp2C] 26]) hS195 [1, 2, 0, 4, 5, 3, 6, 7, 8, 9, 13, 12, 10, 15, 14, 11] (by decide) rfl)
          exact ⟨(by rw [hb216]; exact hE243), hS244⟩
      ·
        rintro a245 w246 ⟨hE247, hS248⟩; clear hE207 hS195
        refine c_cond hE247 rfl (fun ht250 => ?_) (fun ht250 => ?_)
        ·
          have hE251 := hE247; rw [ht250] at hE251; clear hE247
          refine c_seq ?_
          refine c_reg ?_
          refine q_step (v := .bool false) hE251 (y_assign rfl) rfl rfl rfl ?_; intro a252 hE253; clear hE251
          refine c_nil ?_
          have hE254 := hE253.sub (L' := [(8, .bool false)]) ⟨rfl, trivial⟩; clear hE253
          refine p_tn ?_
          refine wp_ret ?_
          refine p_tr ?_
          have hF : F_l_FnExactRoundsToTell mp0 mp1 mp2 xq np0 np1 np2 yq = false := by unfold F_l_FnExactRoundsToTell; rw [ht250, ht68, ht41]; first | done | rfl
          refine c_ret1 hE254 rfl rfl ?_
          exact ⟨(by rw [hF]; first | done | (dsimp only; done) | rfl), hS248.ext⟩
        ·
          obtain ⟨ht255, ht256⟩ := bor_f ht250
          have ht257 := bn_f ht255
          have hp258 := of_decide_eq_true ht257
          have ht259 := bn_f ht256
          have hp260 := of_decide_eq_true ht259
          have hE261 := hE247; rw [ht250] at hE261; clear hE247
          refine wp_skip ?_
          refine p_tn ?_
          refine c_seq ?_
          refine c_seq ?_
          refine d_start (fun w w' => (fun w' => w'.heap[b143]? = some (.cells #[.int .i64 mp0, .slice b137 ((mp1).length) c138, .slice b139 ((mp2).length) c140] 32 (0, 0)) ∧ w'.heap[b5]? = some (.cells #[.int .i64 mp0, .slice mp1A mp1.length mp1C, .slice mp2A mp2.length mp2C] 26 (0, 0)) ∧ True) w → (fun w' => w'.heap[b143]? = some (.cells #[.int .i64 mp0, .slice b137 ((mp1).length) c138, .slice b139 ((mp2).length) c140] 32 (0, 0)) ∧ w'.heap[b5]? = some (.cells #[.int .i64 mp0, .slice mp1A mp1.length mp1C, .slice mp2A mp2.length mp2C] 26 (0, 0)) ∧ True) w') [0, 1] 5 (by kernel_rfl) rfl ?_
          intro w262 he263; have hS264 := St.go hS248 he263; clear hS248
          refine d_take (fun _ h => h) (fun _ _ h k => h k) (v := .agg #[.int .i64 mp0, .slice b137 ((mp1).length) c138, .slice b139 ((mp2).length) c140]) 0 rfl hE261 (S := fun w' => w'.heap[b143]? = some (.cells #[.int .i64 mp0, .slice b137 ((mp1).length) c138, .slice b139 ((mp2).length) c140] 32 (0, 0)) ∧ w'.heap[b5]? = some (.cells #[.int .i64 mp0, .slice mp1A mp1.length mp1C, .slice mp2A mp2.length mp2C] 26 (0, 0)) ∧ True) ⟨(St.row (i := 5) hS264 rfl _ (Ext.refl _)), (St.row (i := 15) hS264 rfl _ (Ext.refl _)), trivial⟩ (y_loadS Try.underlying32 rfl (by kernel_rfl) rfl (fun _ h => h.1)) rfl rfl (by kernel_rfl) (by kernel_rfl) (by kernel_rfl) (by kernel_rfl) rfl rfl (fun _ _ _ h => h) ?_; intro a265 hE266; clear hE261
          refine d_take (fun _ h => h) (fun _ _ h k => h k) (v := .agg #[.int .i64 mp0, .slice mp1A mp1.length mp1C, .slice mp2A mp2.length mp2C]) 1 rfl hE266 (S := fun w' => w'.heap[b143]? = some (.cells #[.int .i64 mp0, .slice b137 ((mp1).length) c138, .slice b139 ((mp2).length) c140] 32 (0, 0)) ∧ w'.heap[b5]? = some (.cells #[.int .i64 mp0, .slice mp1A mp1.length mp1C, .slice mp2A mp2.length mp2C] 26 (0, 0)) ∧ True) ⟨(St.row (i := 5) hS264 rfl _ (Ext.refl _)), (St.row (i := 15) hS264 rfl _ (Ext.refl _)), trivial⟩ (y_loadS Try.underlying26 rfl (by kernel_rfl) rfl (fun _ h => h.2.1)) rfl rfl (by kernel_rfl) (by kernel_rfl) (by kernel_rfl) (by kernel_rfl) rfl rfl (fun _ _ _ h => h) ?_; intro a267 hE268; clear hE266
          refine d_only 2 (by kernel_rfl) rfl hE268 rfl (l_call (f := 17) (argv := [.agg #[.int .i64 mp0, .slice mp1A mp1.length mp1C, .slice mp2A mp2.length mp2C]]) hE268 (fun _ => cf_l_toModel _ _) rfl rfl (d_l_toModel mp0 mp1A mp1.length mp1C mp1 mp2A mp2.length mp2C mp2 w262 (St.rdR (i := 13) hS264 rfl) (St.rdR (i := 14) hS264 rfl) (by first | omega | (simp only [marked_len]; omega) | (simp only [marked_len] at *; omega)) (by first | omega | (simp only [marked_len]; omega) | (simp only [marked_len] at *; omega))) ?_)
          rintro _ w270 ⟨b275, c276, b277, c278, rfl, ho279, he274⟩ a271 hE272; clear hE268
          have hS273 := St.push2 hS264 he274 ho279; clear hS264
          refine ⟨fun _ _ => ⟨(St.row (i := 7) hS273 rfl _ (Ext.refl _)), (St.row (i := 17) hS273 rfl _ (Ext.refl _)), trivial⟩, ?_⟩
          refine d_only 3 (by kernel_rfl) rfl hE272 rfl (l_call (f := 20) (argv := [.agg #[.int .i64 mp0, .slice b137 ((mp1).length) c138, .slice b139 ((mp2).length) c140], .agg #[.int .i64 mp0, .slice b275 ((mp1).length) c276, .slice b277 ((mp2).length) c278]]) hE272 (fun _ => cf_l_eqModel _ _) rfl rfl (d_l_eqModel mp0 b137 ((mp1).length) c138 mp1 b139 ((mp2).length) c140 mp2 mp0 b275 ((mp1).length) c276 mp1 b277 ((mp2).length) c278 mp2 w270 (St.rdO (i := 5) hS273 rfl) (St.rdO (i := 6) hS273 rfl) (St.rdO (i := 0) hS273 rfl) (St.rdO (i := 1) hS273 rfl)) ?_)
          rintro _ w282 ⟨rfl, he286⟩ a283 hE284; clear hE272
          have hS285 := St.go hS273 he286; clear hS273
          refine ⟨fun h => Bool.noConfusion (h.symm.trans (show exm _ _ _ = true by kernel_rfl)), ?_⟩
          refine d_pure (fun _ h => h) (v := .bool (!(decide ((mp0, mp1, mp2) = (mp0, mp1, mp2))))) 4 rfl hE284 (y_not rfl) rfl (by kernel_rfl) (by kernel_rfl) (by kernel_rfl) rfl rfl (fun _ _ _ h => h) ?_; intro a287 hE288; clear hE284
          refine d_done (by kernel_rfl) ?_
          have hE289 := hE288.sub (L' := [(6, .pointer (some ⟨b11, 0, none⟩)), (13, .pointer (some ⟨b170, 0, none⟩)), (60, .bool (!(decide ((mp0, mp1, mp2) = (mp0, mp1, mp2)))))]) ⟨rfl, rfl, rfl, trivial⟩; clear hE288
          refine p_tn ?_
          refine c_cond hE289 rfl (fun ht290 => ?_) (fun ht290 => ?_)
          ·
            have ht291 := bn_t ht290
            have hp292 := of_decide_eq_false ht291
            have hE293 := hE289; rw [ht290] at hE293; clear hE289
            refine c_seq ?_
            refine c_reg ?_
            refine q_step (v := .bool false) hE293 (y_assign rfl) rfl rfl rfl ?_; intro a294 hE295; clear hE293
            refine c_nil ?_
            have hE296 := hE295.sub (L' := [(8, .bool false)]) ⟨rfl, trivial⟩; clear hE295
            refine p_tn ?_
            refine wp_ret ?_
            refine p_tr ?_
            have hF : F_l_FnExactRoundsToTell mp0 mp1 mp2 xq np0 np1 np2 yq = false := by unfold F_l_FnExactRoundsToTell; rw [ht290, ht250, ht68, ht41]; first | done | rfl
            refine c_ret1 hE296 rfl rfl ?_
            exact ⟨(by rw [hF]; first | done | (dsimp only; done) | rfl), hS285.ext⟩
          ·
            have ht297 := bn_f ht290
            have hp298 := of_decide_eq_true ht297
            have hE299 := hE289; rw [ht290] at hE299; clear hE289
            refine wp_skip ?_
            refine p_tn ?_
            refine c_seq ?_
            refine c_seq ?_
            refine d_start (fun w w' => (fun w' => w'.heap[b170]? = some (.cells #[.int .i64 np0, .slice b164 ((np1).length) c165, .slice b166 ((np2).length) c167] 32 (0, 0)) ∧ w'.heap[b11]? = some (.cells #[.int .i64 np0, .slice np1A np1.length np1C, .slice np2A np2.length np2C] 26 (0, 0)) ∧ True) w → (fun w' => w'.heap[b170]? = some (.cells #[.int .i64 np0, .slice b164 ((np1).length) c165, .slice b166 ((np2).length) c167] 32 (0, 0)) ∧ w'.heap[b11]? = some (.cells #[.int .i64 np0, .slice np1A np1.length np1C, .slice np2A np2.length np2C] 26 (0, 0)) ∧ True) w') [0, 1] 5 (by kernel_rfl) rfl ?_
            intro w300 he301; have hS302 := St.go hS285 he301; clear hS285
            refine d_take (fun _ h => h) (fun _ _ h k => h k) (v := .agg #[.int .i64 np0, .slice b164 ((np1).length) c165, .slice b166 ((np2).length) c167]) 0 rfl hE299 (S := fun w' => w'.heap[b170]? = some (.cells #[.int .i64 np0, .slice b164 ((np1).length) c165, .slice b166 ((np2).length) c167] 32 (0, 0)) ∧ w'.heap[b11]? = some (.cells #[.int .i64 np0, .slice np1A np1.length np1C, .slice np2A np2.length np2C] 26 (0, 0)) ∧ True) ⟨(St.row (i := 4) hS302 rfl _ (Ext.refl _)), (St.row (i := 14) hS302 rfl _ (Ext.refl _)), trivial⟩ (y_loadS Try.underlying32 rfl (by kernel_rfl) rfl (fun _ h => h.1)) rfl rfl (by kernel_rfl) (by kernel_rfl) (by kernel_rfl) (by kernel_rfl) rfl rfl (fun _ _ _ h => h) ?_; intro a303 hE304; clear hE299
            refine d_take (fun _ h => h) (fun _ _ h k => h k) (v := .agg #[.int .i64 np0, .slice np1A np1.length np1C, .slice np2A np2.length np2C]) 1 rfl hE304 (S := fun w' => w'.heap[b170]? = some (.cells #[.int .i64 np0, .slice b164 ((np1).length) c165, .slice b166 ((np2).length) c167] 32 (0, 0)) ∧ w'.heap[b11]? = some (.cells #[.int .i64 np0, .slice np1A np1.length np1C, .slice np2A np2.length np2C] 26 (0, 0)) ∧ True) ⟨(St.row (i := 4) hS302 rfl _ (Ext.refl _)), (St.row (i := 14) hS302 rfl _ (Ext.refl _)), trivial⟩ (y_loadS Try.underlying26 rfl (by kernel_rfl) rfl (fun _ h => h.2.1)) rfl rfl (by kernel_rfl) (by kernel_rfl) (by kernel_rfl) (by kernel_rfl) rfl rfl (fun _ _ _ h => h) ?_; intro a305 hE306; clear hE304
            refine d_only 2 (by kernel_rfl) rfl hE306 rfl (l_call (f := 17) (argv := [.agg #[.int .i64 np0, .slice np1A np1.length np1C, .slice np2A np2.length np2C]]) hE306 (fun _ => cf_l_toModel _ _) rfl rfl (d_l_toModel np0 np1A np1.length np1C np1 np2A np2.length np2C np2 w300 (St.rdR (i := 12) hS302 rfl) (St.rdR (i := 13) hS302 rfl) (by first | omega | (simp only [marked_len]; omega) | (simp only [marked_len] at *; omega)) (by first | omega | (simp only [marked_len]; omega) | (simp only [marked_len] at *; omega))) ?_)
            rintro _ w308 ⟨b313, c314, b315, c316, rfl, ho317, he312⟩ a309 hE310; clear hE306
            have hS311 := St.push2 hS302 he312 ho317; clear hS302
            refine ⟨fun _ _ => ⟨(St.row (i := 6) hS311 rfl _ (Ext.refl _)), (St.row (i := 16) hS311 rfl _ (Ext.refl _)), trivial⟩, ?_⟩
            refine d_only 3 (by kernel_rfl) rfl hE310 rfl (l_call (f := 20) (argv := [.agg #[.int .i64 np0, .slice b164 ((np1).length) c165, .slice b166 ((np2).length) c167], .agg #[.int .i64 np0, .slice b313 ((np1).length) c314, .slice b315 ((np2).length) c316]]) hE310 (fun _ => cf_l_eqModel _ _) rfl rfl (d_l_eqModel np0 b164 ((np1).length) c165 np1 b166 ((np2).length) c167 np2 np0 b313 ((np1).length) c314 np1 b315 ((np2).length) c316 np2 w308 (St.rdO (i := 4) hS311 rfl) (St.rdO (i := 5) hS311 rfl) (St.rdO (i := 0) hS311 rfl) (St.rdO (i := 1) hS311 rfl)) ?_)
            rintro _ w320 ⟨rfl, he324⟩ a321 hE322; clear hE310
            have hS323 := St.go hS311 he324; clear hS311
            refine ⟨fun h => Bool.noConfusion (h.symm.trans (show exm _ _ _ = true by kernel_rfl)), ?_⟩
            refine d_pure (fun _ h => h) (v := .bool (!(decide ((np0, np1, np2) = (np0, np1, np2))))) 4 rfl hE322 (y_not rfl) rfl (by kernel_rfl) (by kernel_rfl) (by kernel_rfl) rfl rfl (fun _ _ _ h => h) ?_; intro a325 hE326; clear hE322
            refine d_done (by kernel_rfl) ?_
            have hE327 := hE326.sub (L' := [(65, .bool (!(decide ((np0, np1, np2) = (np0, np1, np2)))))]) ⟨rfl, trivial⟩; clear hE326
            refine p_tn ?_
            refine c_cond hE327 rfl (fun ht328 => ?_) (fun ht328 => ?_)
            ·
              have ht329 := bn_t ht328
              have hp330 := of_decide_eq_false ht329
              have hE331 := hE327; rw [ht328] at hE331; clear hE327
              refine c_seq ?_
              refine c_reg ?_
              refine q_step (v := .bool false) hE331 (y_assign rfl) rfl rfl rfl ?_; intro a332 hE333; clear hE331
              refine c_nil ?_
              have hE334 := hE333.sub (L' := [(8, .bool false)]) ⟨rfl, trivial⟩; clear hE333
              refine p_tn ?_
              refine wp_ret ?_
              refine p_tr ?_
              have hF : F_l_FnExactRoundsToTell mp0 mp1 mp2 xq np0 np1 np2 yq = false := by unfold F_l_FnExactRoundsToTell; rw [ht328, ht290, ht250, ht68, ht41]; first | done | rfl
              refine c_ret1 hE334 rfl rfl ?_
              exact ⟨(by rw [hF]; first | done | (dsimp only; done) | rfl), hS323.ext⟩
            ·
              have ht335 := bn_f ht328
              have hp336 := of_decide_eq_true ht335
              have hE337 := hE327; rw [ht328] at hE337; clear hE327
              refine wp_skip ?_
              refine p_tn ?_
              refine c_seq ?_
              refine c_reg ?_
              refine q_step (v := .bool true) hE337 (y_assign rfl) rfl rfl rfl ?_; intro a338 hE339; clear hE337
              refine c_nil ?_
              have hE340 := hE339.sub (L' := [(8, .bool true)]) ⟨rfl, trivial⟩; clear hE339
              refine p_tn ?_
              refine wp_ret ?_
              have hF : F_l_FnExactRoundsToTell mp0 mp1 mp2 xq np0 np1 np2 yq = true := by unfold F_l_FnExactRoundsToTell; rw [ht328, ht290, ht250, ht68, ht41]; first | done | rfl
              refine c_ret1 hE340 rfl rfl ?_
              exact ⟨(by rw [hF]; first | done | (dsimp only; done) | rfl), hS323.ext⟩

theorem FnExactRoundsToTell_true (mp0 : Int) (mp1 mp2 : List Int) (x np0 : Int) (np1 np2 : List Int) (y : Int) : F_l_FnExactRoundsToTell mp0 mp1 mp2 x np0 np1 np2 y = true := by
  unfold F_l_FnExactRoundsToTell
  rw [RoundsToTell_eq]
  simp


end Go.Proofs.Ytlbonhloeefnmaa
