/- GLBis: models and contracts, printed by wip/gen/gen.py -/
import Derived.Test.YtlmmmblnaiddhaaGAM
import Derived.Test.YtlmmmblnaiddhaaGSIB
set_option linter.unusedVariables false
set_option linter.unusedSimpArgs false
namespace Go.Proofs.Ytlmmmblnaiddhaa
open Go.RowKit

def F_l_FnExactIsBisimulation (mp0 : Int) (mp1 : List Int) (mp2 : List Int) (np0 : Int) (np1 : List Int) (np2 : List Int) (linkq : List Int) : Bool :=
  bif (decide (1048576 < (linkq.length : Int))) then true else (bif (decide ((F_l_szModel mp0 mp1 mp2 1048576) < 0)) then true else (bif (decide ((F_l_szModel np0 np1 np2 (F_l_szModel mp0 mp1 mp2 1048576)) < 0)) then true else (bif ((((F_IsBisimulation mp0 mp1 mp2 np0 np1 np2 linkq).1) != ((F_s_IsBisimulation mp0 mp1 mp2 np0 np1 np2 linkq).1)) || (!decide (((F_IsBisimulation mp0 mp1 mp2 np0 np1 np2 linkq).2) = ((F_s_IsBisimulation mp0 mp1 mp2 np0 np1 np2 linkq).2)))) then false else (bif (!(decide ((mp0, mp1, mp2) = (mp0, mp1, mp2)))) then false else (bif (!(decide ((np0, np1, np2) = (np0, np1, np2)))) then false else (bif (!(decide (linkq = linkq))) then false else true))))))
theorem cf_l_FnExactIsBisimulation (args : Array Value) (w : World) : (callFunc 8 args).run Try.prog w = .ok (.enter 8 args) w := by kernel_rfl
set_option maxRecDepth 100000 in
theorem c_l_FnExactIsBisimulation (mp0 : Int) (mp1A : Option Addr) (mp1N mp1C : Nat) (mp1 : List Int) (mp2A : Option Addr) (mp2N mp2C : Nat) (mp2 : List Int) (np0 : Int) (np1A : Option Addr) (np1N np1C : Nat) (np1 : List Int) (np2A : Option Addr) (np2N np2C : Nat) (np2 : List Int) (linkqA : Option Addr) (linkqN linkqC : Nat) (linkq : List Int) (w : World) (mp1R : RdS w 1 mp1A mp1N mp1C mp1) (mp2R : RdS w 1 mp2A mp2N mp2C mp2) (np1R : RdS w 1 np1A np1N np1C np1) (np2R : RdS w 1 np2A np2N np2C np2) (linkqR : RdS w 1 linkqA linkqN linkqC linkq) :
    Calls Try.prog 8 #[.agg #[.int .i64 mp0, .slice mp1A mp1N mp1C, .slice mp2A mp2N mp2C], .agg #[.int .i64 np0, .slice np1A np1N np1C, .slice np2A np2N np2C], .slice linkqA linkqN linkqC] w (Ret fun v w' => v = .bool (F_l_FnExactIsBisimulation mp0 mp1 mp2 np0 np1 np2 linkq) ∧ Ext w w') := by
  obtain rfl : mp1N = mp1.length := mp1R.len1.symm
  have mp1Le := mp1R.le
  obtain rfl : mp2N = mp2.length := mp2R.len1.symm
  have mp2Le := mp2R.le
  obtain rfl : np1N = np1.length := np1R.len1.symm
  have np1Le := np1R.le
  obtain rfl : np2N = np2.length := np2R.len1.symm
  have np2Le := np2R.le
  obtain rfl : linkqN = linkq.length := linkqR.len1.symm
  have linkqLe := linkqR.le
  have hS := St.nil w
  have hS1 := St.rd0 hS rfl mp1R; clear hS
  have hS2 := St.rd0 hS1 rfl mp2R; clear hS1
  have hS3 := St.rd0 hS2 rfl np1R; clear hS2
  have hS4 := St.rd0 hS3 rfl np2R; clear hS3
  have hS5 := St.rd0 hS4 rfl linkqR; clear hS4
  refine enter (args := [.agg #[.int .i64 mp0, .slice mp1A mp1.length mp1C, .slice mp2A mp2.length mp2C], .agg #[.int .i64 np0, .slice np1A np1.length np1C, .slice np2A np2.length np2C], .slice linkqA linkq.length linkqC]) Try.func8 rfl rfl ?_
  rw [Try.ntmps8]; intro a hE
  have hE := hE.sub (L' := [(0, .agg #[.int .i64 mp0, .slice mp1A mp1.length mp1C, .slice mp2A mp2.length mp2C]), (1, .agg #[.int .i64 np0, .slice np1A np1.length np1C, .slice np2A np2.length np2C]), (2, .slice linkqA linkq.length linkqC)]) ⟨rfl, rfl, rfl, trivial⟩
  refine c_seq ?_
  refine c_reg ?_
  refine l_step hE rfl (l_box (v := .agg #[.int .i64 mp0, .slice mp1A mp1.length mp1C, .slice mp2A mp2.length mp2C]) (cs := #[.int .i64 mp0, .slice mp1A mp1.length mp1C, .slice mp2A mp2.length mp2C]) hS5 hE rfl rfl rfl ?_)
  intro b6 w7 hS10 he11 a8 hE9; clear hS5 hE
  refine l_step hE9 rfl (l_box (v := .agg #[.int .i64 np0, .slice np1A np1.length np1C, .slice np2A np2.length np2C]) (cs := #[.int .i64 np0, .slice np1A np1.length np1C, .slice np2A np2.length np2C]) hS10 hE9 rfl rfl rfl ?_)
  intro b12 w13 hS16 he17 a14 hE15; clear hS10 hE9
  refine q_step (v := .bool false) hE15 (y_assign rfl) rfl rfl rfl ?_; intro a18 hE19; clear hE15
  refine c_nil ?_
  have hE20 := hE19.sub (L' := [(2, .slice linkqA linkq.length linkqC), (3, .pointer (some ⟨b6, 0, none⟩)), (4, .pointer (some ⟨b12, 0, none⟩))]) ⟨rfl, rfl, rfl, trivial⟩; clear hE19
  refine p_tn ?_
  refine c_seq ?_
  refine c_seq ?_
  refine c_reg ?_
  refine q_step (v := .slice linkqA linkq.length linkqC) hE20 (y_move rfl) rfl rfl rfl ?_; intro a21 hE22; clear hE20
  refine q_step (v := .int .i64 (linkq.length : Int)) hE22 (y_len (e := 2) (by kernel_rfl) rfl) rfl rfl rfl ?_; intro a23 hE24; clear hE22
  refine q_step (v := .bool (decide (1048576 < (linkq.length : Int)))) hE24 (y_gtr rfl rfl) rfl rfl rfl ?_; intro a25 hE26; clear hE24
  refine c_nil ?_
  have hE27 := hE26.sub (L' := [(2, .slice linkqA linkq.length linkqC), (3, .pointer (some ⟨b6, 0, none⟩)), (4, .pointer (some ⟨b12, 0, none⟩)), (17, .bool (decide (1048576 < (linkq.length : Int))))]) ⟨rfl, rfl, rfl, rfl, trivial⟩; clear hE26
  refine p_tn ?_
  refine c_cond hE27 rfl (fun ht28 => ?_) (fun ht28 => ?_)
  ·
    have hp29 := of_decide_eq_true ht28
    have hE30 := hE27; rw [ht28] at hE30; clear hE27
    refine c_seq ?_
    refine c_reg ?_
    refine q_step (v := .bool true) hE30 (y_assign rfl) rfl rfl rfl ?_; intro a31 hE32; clear hE30
    refine c_nil ?_
    have hE33 := hE32.sub (L' := [(6, .bool true)]) ⟨rfl, trivial⟩; clear hE32
    refine p_tn ?_
    refine wp_ret ?_
    refine p_tr ?_
    have hF : F_l_FnExactIsBisimulation mp0 mp1 mp2 np0 np1 np2 linkq = true := by unfold F_l_FnExactIsBisimulation; rw [ht28]; first | done | rfl
    refine c_ret1 hE33 rfl rfl ?_
    exact ⟨(by rw [hF]; first | done | rfl), hS16.ext⟩
  ·
    have hp34 := of_decide_eq_false ht28
    have hE35 := hE27; rw [ht28] at hE35; clear hE27
    refine wp_skip ?_
    refine p_tn ?_
    refine c_seq ?_
    refine c_reg ?_
    refine q_step (v := .int .i64 1048576) hE35 (y_assign rfl) rfl rfl rfl ?_; intro a36 hE37; clear hE35
    refine c_nil ?_
    have hE38 := hE37.sub (L' := [(2, .slice linkqA linkq.length linkqC), (3, .pointer (some ⟨b6, 0, none⟩)), (4, .pointer (some ⟨b12, 0, none⟩)), (7, .int .i64 1048576)]) ⟨rfl, rfl, rfl, rfl, trivial⟩; clear hE37
    refine p_tn ?_
    refine c_seq ?_
    refine c_reg ?_
    refine q_step (v := .agg #[.int .i64 mp0, .slice mp1A mp1.length mp1C, .slice mp2A mp2.length mp2C]) hE38 (y_loadS Try.underlying35 rfl (by kernel_rfl) rfl (St.row (i := 1) hS16 rfl)) rfl rfl rfl ?_; intro a39 hE40; clear hE38
    refine q_step (v := .int .i64 1048576) hE40 (y_move rfl) rfl rfl rfl ?_; intro a41 hE42; clear hE40
    refine l_step hE42 rfl (l_call (f := 22) (argv := [.agg #[.int .i64 mp0, .slice mp1A mp1.length mp1C, .slice mp2A mp2.length mp2C], .int .i64 1048576]) hE42 (fun _ => cf_l_szModel _ _) rfl rfl (c_l_szModel mp0 mp1A mp1.length mp1C mp1 mp2A mp2.length mp2C mp2 1048576 w13 (St.rdR (i := 6) hS16 rfl) (St.rdR (i := 5) hS16 rfl) (by first | omega | (simp only [marked_len]; omega)) (by first | omega | (simp only [marked_len]; omega))) ?_)
    rintro _ w44 ⟨rfl, he48⟩ a45 hE46; clear hE42
    have hS47 := St.go hS16 he48; clear hS16
    refine q_step (v := .int .i64 (F_l_szModel mp0 mp1 mp2 1048576)) hE46 (y_assign rfl) rfl rfl rfl ?_; intro a49 hE50; clear hE46
    refine c_nil ?_
    have hE51 := hE50.sub (L' := [(2, .slice linkqA linkq.length linkqC), (3, .pointer (some ⟨b6, 0, none⟩)), (4, .pointer (some ⟨b12, 0, none⟩)), (7, .int .i64 (F_l_szModel mp0 mp1 mp2 1048576))]) ⟨rfl, rfl, rfl, rfl, trivial⟩; clear hE50
    refine p_tn ?_
    refine c_seq ?_
    refine c_seq ?_
    refine c_reg ?_
    refine q_step (v := .int .i64 (F_l_szModel mp0 mp1 mp2 1048576)) hE51 (y_move rfl) rfl rfl rfl ?_; intro a52 hE53; clear hE51
    refine q_step (v := .bool (decide ((F_l_szModel mp0 mp1 mp2 1048576) < 0))) hE53 (y_lss rfl rfl) rfl rfl rfl ?_; intro a54 hE55; clear hE53
    refine c_nil ?_
    have hE56 := hE55.sub (L' := [(2, .slice linkqA linkq.length linkqC), (3, .pointer (some ⟨b6, 0, none⟩)), (4, .pointer (some ⟨b12, 0, none⟩)), (7, .int .i64 (F_l_szModel mp0 mp1 mp2 1048576)), (22, .bool (decide ((F_l_szModel mp0 mp1 mp2 1048576) < 0)))]) ⟨rfl, rfl, rfl, rfl, rfl, trivial⟩; clear hE55
    refine p_tn ?_
    refine c_cond hE56 rfl (fun ht57 => ?_) (fun ht57 => ?_)
    ·
      have hp58 := of_decide_eq_true ht57
      have hE59 := hE56; rw [ht57] at hE59; clear hE56
      refine c_seq ?_
      refine c_reg ?_
      refine q_step (v := .bool true) hE59 (y_assign rfl) rfl rfl rfl ?_; intro a60 hE61; clear hE59
      refine c_nil ?_
      have hE62 := hE61.sub (L' := [(6, .bool true)]) ⟨rfl, trivial⟩; clear hE61
      refine p_tn ?_
      refine wp_ret ?_
      refine p_tr ?_
      have hF : F_l_FnExactIsBisimulation mp0 mp1 mp2 np0 np1 np2 linkq = true := by unfold F_l_FnExactIsBisimulation; rw [ht57, ht28]; first | done | rfl
      refine c_ret1 hE62 rfl rfl ?_
      exact ⟨(by rw [hF]; first | done | rfl), hS47.ext⟩
    ·
      have hp63 := of_decide_eq_false ht57
      have hq64 := szModel_bound hp63
      have hE65 := hE56; rw [ht57] at hE65; clear hE56
      refine wp_skip ?_
      refine p_tn ?_
      refine c_seq ?_
      refine c_reg ?_
      refine q_step (v := .agg #[.int .i64 np0, .slice np1A np1.length np1C, .slice np2A np2.length np2C]) hE65 (y_loadS Try.underlying35 rfl (by kernel_rfl) rfl (St.row (i := 0) hS47 rfl)) rfl rfl rfl ?_; intro a66 hE67; clear hE65
      refine q_step (v := .int .i64 (F_l_szModel mp0 mp1 mp2 1048576)) hE67 (y_move rfl) rfl rfl rfl ?_; intro a68 hE69; clear hE67
      refine l_step hE69 rfl (l_call (f := 22) (argv := [.agg #[.int .i64 np0, .slice np1A np1.length np1C, .slice np2A np2.length np2C], .int .i64 (F_l_szModel mp0 mp1 mp2 1048576)]) hE69 (fun _ => cf_l_szModel _ _) rfl rfl (c_l_szModel np0 np1A np1.length np1C np1 np2A np2.length np2C np2 (F_l_szModel mp0 mp1 mp2 1048576) w44 (St.rdR (i := 4) hS47 rfl) (St.rdR (i := 3) hS47 rfl) (by first | omega | (simp only [marked_len]; omega)) (by first | omega | (simp only [marked_len]; omega))) ?_)
      rintro _ w71 ⟨rfl, he75⟩ a72 hE73; clear hE69
      have hS74 := St.go hS47 he75; clear hS47
      refine q_step (v := .int .i64 (F_l_szModel np0 np1 np2 (F_l_szModel mp0 mp1 mp2 1048576))) hE73 (y_assign rfl) rfl rfl rfl ?_; intro a76 hE77; clear hE73
      refine c_nil ?_
      have hE78 := hE77.sub (L' := [(2, .slice linkqA linkq.length linkqC), (3, .pointer (some ⟨b6, 0, none⟩)), (4, .pointer (some ⟨b12, 0, none⟩)), (7, .int .i64 (F_l_szModel np0 np1 np2 (F_l_szModel mp0 mp1 mp2 1048576)))]) ⟨rfl, rfl, rfl, rfl, trivial⟩; clear hE77
      refine p_tn ?_
      refine c_seq ?_
      refine c_seq ?_
      refine c_reg ?_
      refine q_step (v := .int .i64 (F_l_szModel np0 np1 np2 (F_l_szModel mp0 mp1 mp2 1048576))) hE78 (y_move rfl) rfl rfl rfl ?_; intro a79 hE80; clear hE78
      refine q_step (v := .bool (decide ((F_l_szModel np0 np1 np2 (F_l_szModel mp0 mp1 mp2 1048576)) < 0))) hE80 (y_lss rfl rfl) rfl rfl rfl ?_; intro a81 hE82; clear hE80
      refine c_nil ?_
      have hE83 := hE82.sub (L' := [(2, .slice linkqA linkq.length linkqC), (3, .pointer (some ⟨b6, 0, none⟩)), (4, .pointer (some ⟨b12, 0, none⟩)), (27, .bool (decide ((F_l_szModel np0 np1 np2 (F_l_szModel mp0 mp1 mp2 1048576)) < 0)))]) ⟨rfl, rfl, rfl, rfl, trivial⟩; clear hE82
      refine p_tn ?_
      refine c_cond hE83 rfl (fun ht84 => ?_) (fun ht84 => ?_)
      ·
        have hp85 := of_decide_eq_true ht84
        have hE86 := hE83; rw [ht84] at hE86; clear hE83
        refine c_seq ?_
        refine c_reg ?_
        refine q_step (v := .bool true) hE86 (y_assign rfl) rfl rfl rfl ?_; intro a87 hE88; clear hE86
        refine c_nil ?_
        have hE89 := hE88.sub (L' := [(6, .bool true)]) ⟨rfl, trivial⟩; clear hE88
        refine p_tn ?_
        refine wp_ret ?_
        refine p_tr ?_
        have hF : F_l_FnExactIsBisimulation mp0 mp1 mp2 np0 np1 np2 linkq = true := by unfold F_l_FnExactIsBisimulation; rw [ht84, ht57, ht28]; first | done | rfl
        refine c_ret1 hE89 rfl rfl ?_
        exact ⟨(by rw [hF]; first | done | rfl), hS74.ext⟩
      ·
        have hp90 := of_decide_eq_false ht84
        have hq91 := szModel_bound hp90
        have hE92 := hE83; rw [ht84] at hE92; clear hE83
        refine wp_skip ?_
        refine p_tn ?_
        refine c_seq ?_
        refine d_start (fun w' => w'.heap[b6]? = some (.cells #[.int .i64 mp0, .slice mp1A mp1.length mp1C, .slice mp2A mp2.length mp2C] 35 (0, 0)) ∧ w'.heap[b12]? = some (.cells #[.int .i64 np0, .slice np1A np1.length np1C, .slice np2A np2.length np2C] 35 (0, 0)) ∧ True) [0, 2] 12 (by kernel_rfl) rfl ?_
        intro w93 he94; have hS95 := St.go hS74 he94; clear hS74
        refine d_take (v := .agg #[.int .i64 mp0, .slice mp1A mp1.length mp1C, .slice mp2A mp2.length mp2C]) 0 rfl hE92 ⟨(St.row (i := 1) hS95 rfl _ (Ext.refl _)), (St.row (i := 0) hS95 rfl _ (Ext.refl _)), trivial⟩ (y_loadS Try.underlying35 rfl (by kernel_rfl) rfl (fun _ h => h.1)) rfl rfl (by kernel_rfl) (by kernel_rfl) (by kernel_rfl) rfl rfl (fun _ _ _ h => h) ?_; intro a96 hE97; clear hE92
        refine d_take (v := .agg #[.int .i64 np0, .slice np1A np1.length np1C, .slice np2A np2.length np2C]) 2 rfl hE97 ⟨(St.row (i := 1) hS95 rfl _ (Ext.refl _)), (St.row (i := 0) hS95 rfl _ (Ext.refl _)), trivial⟩ (y_loadS Try.underlying35 rfl (by kernel_rfl) rfl (fun _ h => h.2.1)) rfl rfl (by kernel_rfl) (by kernel_rfl) (by kernel_rfl) rfl rfl (fun _ _ _ h => h) ?_; intro a98 hE99; clear hE97
        refine d_pure (v := .slice linkqA linkq.length linkqC) 4 rfl hE99 (y_move rfl) rfl (by kernel_rfl) (by kernel_rfl) (by kernel_rfl) rfl rfl (fun _ _ _ h => h) ?_; intro a100 hE101; clear hE99
        refine d_only 1 (by kernel_rfl) rfl hE101 rfl (l_call (f := 24) (argv := [.agg #[.int .i64 mp0, .slice mp1A mp1.length mp1C, .slice mp2A mp2.length mp2C]]) hE101 (fun _ => cf_l_toModel _ _) rfl rfl (d_l_toModel mp0 mp1A mp1.length mp1C mp1 mp2A mp2.length mp2C mp2 w93 (St.rdR (i := 6) hS95 rfl) (St.rdR (i := 5) hS95 rfl) (by first | omega | (simp only [marked_len]; omega)) (by first | omega | (simp only [marked_len]; omega))) ?_)
        rintro _ w103 ⟨b108, c109, b110, c111, rfl, ho112, he107⟩ a104 hE105; clear hE101
        have hS106 := St.push2 hS95 he107 ho112; clear hS95
        refine ⟨fun _ _ => ⟨(St.row (i := 3) hS106 rfl _ (Ext.refl _)), (St.row (i := 2) hS106 rfl _ (Ext.refl _)), trivial⟩, ?_⟩
        refine d_only 3 (by kernel_rfl) rfl hE105 rfl (l_call (f := 24) (argv := [.agg #[.int .i64 np0, .slice np1A np1.length np1C, .slice np2A np2.length np2C]]) hE105 (fun _ => cf_l_toModel _ _) rfl rfl (d_l_toModel np0 np1A np1.length np1C np1 np2A np2.length np2C np2 w103 (St.rdR (i := 6) hS106 rfl) (St.rdR (i := 5) hS106 rfl) (by first | omega | (simp only [marked_len]; omega)) (by first | omega | (simp only [marked_len]; omega))) ?_)
        rintro _ w115 ⟨b120, c121, b122, c123, rfl, ho124, he119⟩ a116 hE117; clear hE105
        have hS118 := St.push2 hS106 he119 ho124; clear hS106
        refine ⟨fun _ _ => ⟨(St.row (i := 5) hS118 rfl _ (Ext.refl _)), (St.row (i := 4) hS118 rfl _ (Ext.refl _)), trivial⟩, ?_⟩
        refine d_only 5 (by kernel_rfl) rfl hE117 rfl (l_call (f := 18) (argv := [.slice linkqA linkq.length linkqC]) hE117 (fun _ => cf_l_toInt64S _ _) rfl rfl (d_l_toInt64S linkqA linkq.length linkqC linkq w115 (St.rdR (i := 6) hS118 rfl) (by first | omega | (simp only [marked_len]; omega))) ?_)
        rintro _ w127 ⟨b132, c133, rfl, ho134, he131⟩ a128 hE129; clear hE117
        have hS130 := St.own hS118 he131 ho134; clear hS118
        refine ⟨fun _ _ => ⟨(St.row (i := 6) hS130 rfl _ (Ext.refl _)), (St.row (i := 5) hS130 rfl _ (Ext.refl _)), trivial⟩, ?_⟩
        refine d_only 6 (by kernel_rfl) rfl hE129 rfl (l_call (f := 38) (argv := [.agg #[.int .i64 mp0, .slice b108 ((mp1).length) c109, .slice b110 ((mp2).length) c111], .agg #[.int .i64 np0, .slice b120 ((np1).length) c121, .slice b122 ((np2).length) c123], .slice b132 ((linkq).length) c133]) hE129 (fun _ => cf_s_IsBisimulation _ _) rfl rfl (c_s_IsBisimulation mp0 b108 ((mp1).length) c109 mp1 b110 ((mp2).length) c111 mp2 np0 b120 ((np1).length) c121 np1 b122 ((np2).length) c123 np2 b132 ((linkq).length) c133 linkq w127 (St.rdO (i := 3) hS130 rfl) (St.rdO (i := 4) hS130 rfl) (St.rdO (i := 1) hS130 rfl) (St.rdO (i := 2) hS130 rfl) (St.rdO (i := 0) hS130 rfl)) ?_)
        rintro _ w136 ⟨rfl, he140⟩ a137 hE138; clear hE129
        have hS139 := St.go hS130 he140; clear hS130
        refine ⟨fun _ _ => ⟨(St.row (i := 6) hS139 rfl _ (Ext.refl _)), (St.row (i := 5) hS139 rfl _ (Ext.refl _)), trivial⟩, ?_⟩
        refine d_pure (v := .tuple #[.bool ((F_s_IsBisimulation mp0 mp1 mp2 np0 np1 np2 linkq).1), .int .i64 ((F_s_IsBisimulation mp0 mp1 mp2 np0 np1 np2 linkq).2)]) 7 rfl hE138 (y_move rfl) rfl (by kernel_rfl) (by kernel_rfl) (by kernel_rfl) rfl rfl (fun _ _ _ h => h) ?_; intro a141 hE142; clear hE138
        refine d_pure (v := .bool ((F_s_IsBisimulation mp0 mp1 mp2 np0 np1 np2 linkq).1)) 8 rfl hE142 (y_extract rfl rfl) rfl (by kernel_rfl) (by kernel_rfl) (by kernel_rfl) rfl rfl (fun _ _ _ h => h) ?_; intro a143 hE144; clear hE142
        refine d_pure (v := .int .i64 ((F_s_IsBisimulation mp0 mp1 mp2 np0 np1 np2 linkq).2)) 9 rfl hE144 (y_extract rfl rfl) rfl (by kernel_rfl) (by kernel_rfl) (by kernel_rfl) rfl rfl (fun _ _ _ h => h) ?_; intro a145 hE146; clear hE144
        refine d_pure (v := .bool ((F_s_IsBisimulation mp0 mp1 mp2 np0 np1 np2 linkq).1)) 10 rfl hE146 (y_assign rfl) rfl (by kernel_rfl) (by kernel_rfl) (by kernel_rfl) rfl rfl (fun _ _ _ h => h) ?_; intro a147 hE148; clear hE146
        refine d_pure (v := .int .i64 ((F_s_IsBisimulation mp0 mp1 mp2 np0 np1 np2 linkq).2)) 11 rfl hE148 (y_assign rfl) rfl (by kernel_rfl) (by kernel_rfl) (by kernel_rfl) rfl rfl (fun _ _ _ h => h) ?_; intro a149 hE150; clear hE148
        refine d_done (by kernel_rfl) ?_
        have hE151 := hE150.sub (L' := [(2, .slice linkqA linkq.length linkqC), (3, .pointer (some ⟨b6, 0, none⟩)), (4, .pointer (some ⟨b12, 0, none⟩)), (8, .bool ((F_s_IsBisimulation mp0 mp1 mp2 np0 np1 np2 linkq).1)), (9, .int .i64 ((F_s_IsBisimulation mp0 mp1 mp2 np0 np1 np2 linkq).2))]) ⟨rfl, rfl, rfl, rfl, rfl, trivial⟩; clear hE150
        refine p_tn ?_
        refine c_seq ?_
        refine c_reg ?_
        refine q_step (v := .agg #[.int .i64 mp0, .slice mp1A mp1.length mp1C, .slice mp2A mp2.length mp2C]) hE151 (y_loadS Try.underlying35 rfl (by kernel_rfl) rfl (St.row (i := 6) hS139 rfl)) rfl rfl rfl ?_; intro a152 hE153; clear hE151
        refine l_step hE153 rfl (l_call (f := 24) (argv := [.agg #[.int .i64 mp0, .slice mp1A mp1.length mp1C, .slice mp2A mp2.length mp2C]]) hE153 (fun _ => cf_l_toModel _ _) rfl rfl (d_l_toModel mp0 mp1A mp1.length mp1C mp1 mp2A mp2.length mp2C mp2 w136 (St.rdR (i := 11) hS139 rfl) (St.rdR (i := 10) hS139 rfl) (by first | omega | (simp only [marked_len]; omega)) (by first | omega | (simp only [marked_len]; omega))) ?_)
        rintro _ w155 ⟨b160, c161, b162, c163, rfl, ho164, he159⟩ a156 hE157; clear hE153
        have hS158 := St.push2 hS139 he159 ho164; clear hS139
        refine l_step hE157 rfl (l_alloc (z := .agg #[.int .i64 0, .slice none 0 0, .slice none 0 0]) (cs := #[.int .i64 0, .slice none 0 0, .slice none 0 0]) hS158 hE157 (fun _ => by kernel_rfl) rfl rfl ?_)
        intro b166 w167 hS170 he171 a168 hE169; clear hS158 hE157
        refine l_step hE169 rfl (l_storeS (k := 0) (cs' := #[.int .i64 mp0, .slice b160 ((mp1).length) c161, .slice b162 ((mp2).length) c163]) hS170 hE169 (by kernel_rfl) rfl rfl (by kernel_rfl) rfl rfl ?_)
        intro w173 hS176 a174 hE175; clear hS170 hE169
        refine c_nil ?_
        have hE178 := hE175.sub (L' := [(2, .slice linkqA linkq.length linkqC), (3, .pointer (some ⟨b6, 0, none⟩)), (4, .pointer (some ⟨b12, 0, none⟩)), (8, .bool ((F_s_IsBisimulation mp0 mp1 mp2 np0 np1 np2 linkq).1)), (9, .int .i64 ((F_s_IsBisimulation mp0 mp1 mp2 np0 np1 np2 linkq).2)), (10, .pointer (some ⟨b166, 0, none⟩))]) ⟨rfl, rfl, rfl, rfl, rfl, rfl, trivial⟩; clear hE175
        refine p_tn ?_
        refine c_seq ?_
        refine c_reg ?_
        refine q_step (v := .agg #[.int .i64 np0, .slice np1A np1.length np1C, .slice np2A np2.length np2C]) hE178 (y_loadS Try.underlying35 rfl (by kernel_rfl) rfl (St.row (i := 8) hS176 rfl)) rfl rfl rfl ?_; intro a179 hE180; clear hE178
        refine l_step hE180 rfl (l_call (f := 24) (argv := [.agg #[.int .i64 np0, .slice np1A np1.length np1C, .slice np2A np2.length np2C]]) hE180 (fun _ => cf_l_toModel _ _) rfl rfl (d_l_toModel np0 np1A np1.length np1C np1 np2A np2.length np2C np2 w173 (St.rdR (i := 12) hS176 rfl) (St.rdR (i := 11) hS176 rfl) (by first | omega | (simp only [marked_len]; omega)) (by first | omega | (simp only [marked_len]; omega))) ?_)
        rintro _ w182 ⟨b187, c188, b189, c190, rfl, ho191, he186⟩ a183 hE184; clear hE180
        have hS185 := St.push2 hS176 he186 ho191; clear hS176
        refine l_step hE184 rfl (l_alloc (z := .agg #[.int .i64 0, .slice none 0 0, .slice none 0 0]) (cs := #[.int .i64 0, .slice none 0 0, .slice none 0 0]) hS185 hE184 (fun _ => by kernel_rfl) rfl rfl ?_)
        intro b193 w194 hS197 he198 a195 hE196; clear hS185 hE184
        refine l_step hE196 rfl (l_storeS (k := 0) (cs' := #[.int .i64 np0, .slice b187 ((np1).length) c188, .slice b189 ((np2).length) c190]) hS197 hE196 (by kernel_rfl) rfl rfl (by kernel_rfl) rfl rfl ?_)
        intro w200 hS203 a201 hE202; clear hS197 hE196
        refine c_nil ?_
        have hE205 := hE202.sub (L' := [(2, .slice linkqA linkq.length linkqC), (3, .pointer (some ⟨b6, 0, none⟩)), (4, .pointer (some ⟨b12, 0, none⟩)), (8, .bool ((F_s_IsBisimulation mp0 mp1 mp2 np0 np1 np2 linkq).1)), (9, .int .i64 ((F_s_IsBisimulation mp0 mp1 mp2 np0 np1 np2 linkq).2)), (10, .pointer (some ⟨b166, 0, none⟩)), (11, .pointer (some ⟨b193, 0, none⟩))]) ⟨rfl, rfl, rfl, rfl, rfl, rfl, rfl, trivial⟩; clear hE202
        refine p_tn ?_
        refine c_seq ?_
        refine c_reg ?_
        refine q_step (v := .slice linkqA linkq.length linkqC) hE205 (y_move rfl) rfl rfl rfl ?_; intro a206 hE207; clear hE205
        refine l_step hE207 rfl (l_call (f := 18) (argv := [.slice linkqA linkq.length linkqC]) hE207 (fun _ => cf_l_toInt64S _ _) rfl rfl (d_l_toInt64S linkqA linkq.length linkqC linkq w200 (St.rdR (i := 13) hS203 rfl) (by first | omega | (simp only [marked_len]; omega))) ?_)
        rintro _ w209 ⟨b214, c215, rfl, ho216, he213⟩ a210 hE211; clear hE207
        have hS212 := St.own hS203 he213 ho216; clear hS203
        refine q_step (v := .slice b214 ((linkq).length) c215) hE211 (y_assign rfl) rfl rfl rfl ?_; intro a217 hE218; clear hE211
        refine c_nil ?_
        have hE219 := hE218.sub (L' := [(2, .slice linkqA linkq.length linkqC), (3, .pointer (some ⟨b6, 0, none⟩)), (4, .pointer (some ⟨b12, 0, none⟩)), (8, .bool ((F_s_IsBisimulation mp0 mp1 mp2 np0 np1 np2 linkq).1)), (9, .int .i64 ((F_s_IsBisimulation mp0 mp1 mp2 np0 np1 np2 linkq).2)), (10, .pointer (some ⟨b166, 0, none⟩)), (11, .pointer (some ⟨b193, 0, none⟩)), (12, .slice b214 ((linkq).length) c215)]) ⟨rfl, rfl, rfl, rfl, rfl, rfl, rfl, rfl, trivial⟩; clear hE218
        refine p_tn ?_
        refine c_seq ?_
        refine c_reg ?_
        refine q_step (v := .agg #[.int .i64 mp0, .slice b160 ((mp1).length) c161, .slice b162 ((mp2).length) c163]) hE219 (y_loadS Try.underlying39 rfl (by kernel_rfl) rfl (St.row (i := 4) hS212 rfl)) rfl rfl rfl ?_; intro a220 hE221; clear hE219
        refine q_step (v := .agg #[.int .i64 np0, .slice b187 ((np1).length) c188, .slice b189 ((np2).length) c190]) hE221 (y_loadS Try.underlying39 rfl (by kernel_rfl) rfl (St.row (i := 1) hS212 rfl)) rfl rfl rfl ?_; intro a222 hE223; clear hE221
        refine q_step (v := .slice b214 ((linkq).length) c215) hE223 (y_move rfl) rfl rfl rfl ?_; intro a224 hE225; clear hE223
        refine l_step hE225 rfl (l_call (f := 39) (argv := [.agg #[.int .i64 mp0, .slice b160 ((mp1).length) c161, .slice b162 ((mp2).length) c163], .agg #[.int .i64 np0, .slice b187 ((np1).length) c188, .slice b189 ((np2).length) c190], .slice b214 ((linkq).length) c215]) hE225 (fun _ => cf_IsBisimulation _ _) rfl rfl (c_IsBisimulation mp0 b160 ((mp1).length) c161 mp1 b162 ((mp2).length) c163 mp2 np0 b187 ((np1).length) c188 np1 b189 ((np2).length) c190 np2 b214 ((linkq).length) c215 linkq w209 (St.rdO (i := 5) hS212 rfl) (St.rdO (i := 6) hS212 rfl) (St.rdO (i := 2) hS212 rfl) (St.rdO (i := 3) hS212 rfl) (St.rdO (i := 0) hS212 rfl)) ?_)
        rintro _ w227 ⟨rfl, he231⟩ a228 hE229; clear hE225
        have hS230 := St.go hS212 he231; clear hS212
        refine q_step (v := .tuple #[.bool ((F_IsBisimulation mp0 mp1 mp2 np0 np1 np2 linkq).1), .int .i64 ((F_IsBisimulation mp0 mp1 mp2 np0 np1 np2 linkq).2)]) hE229 (y_move rfl) rfl rfl rfl ?_; intro a232 hE233; clear hE229
        refine q_step (v := .bool ((F_IsBisimulation mp0 mp1 mp2 np0 np1 np2 linkq).1)) hE233 (y_extract rfl rfl) rfl rfl rfl ?_; intro a234 hE235; clear hE233
        refine q_step (v := .int .i64 ((F_IsBisimulation mp0 mp1 mp2 np0 np1 np2 linkq).2)) hE235 (y_extract rfl rfl) rfl rfl rfl ?_; intro a236 hE237; clear hE235
        refine q_step (v := .bool ((F_IsBisimulation mp0 mp1 mp2 np0 np1 np2 linkq).1)) hE237 (y_assign rfl) rfl rfl rfl ?_; intro a238 hE239; clear hE237
        refine q_step (v := .int .i64 ((F_IsBisimulation mp0 mp1 mp2 np0 np1 np2 linkq).2)) hE239 (y_assign rfl) rfl rfl rfl ?_; intro a240 hE241; clear hE239
        refine c_nil ?_
        have hE242 := hE241.sub (L' := [(2, .slice linkqA linkq.length linkqC), (3, .pointer (some ⟨b6, 0, none⟩)), (4, .pointer (some ⟨b12, 0, none⟩)), (8, .bool ((F_s_IsBisimulation mp0 mp1 mp2 np0 np1 np2 linkq).1)), (9, .int .i64 ((F_s_IsBisimulation mp0 mp1 mp2 np0 np1 np2 linkq).2)), (10, .pointer (some ⟨b166, 0, none⟩)), (11, .pointer (some ⟨b193, 0, none⟩)), (12, .slice b214 ((linkq).length) c215), (13, .bool ((F_IsBisimulation mp0 mp1 mp2 np0 np1 np2 linkq).1)), (14, .int .i64 ((F_IsBisimulation mp0 mp1 mp2 np0 np1 np2 linkq).2))]) ⟨rfl, rfl, rfl, rfl, rfl, rfl, rfl, rfl, rfl, rfl, trivial⟩; clear hE241
        refine p_tn ?_
        refine c_seq ?_
        refine c_cut (fun a' w' => E a' 74 [(2, .slice linkqA linkq.length linkqC), (3, .pointer (some ⟨b6, 0, none⟩)), (4, .pointer (some ⟨b12, 0, none⟩)), (10, .pointer (some ⟨b166, 0, none⟩)), (11, .pointer (some ⟨b193, 0, none⟩)), (12, .slice b214 ((linkq).length) c215), (58, .bool ((((F_IsBisimulation mp0 mp1 mp2 np0 np1 np2 linkq).1) != ((F_s_IsBisimulation mp0 mp1 mp2 np0 np1 np2 linkq).1)) || (!decide (((F_IsBisimulation mp0 mp1 mp2 np0 np1 np2 linkq).2) = ((F_s_IsBisimulation mp0 mp1 mp2 np0 np1 np2 linkq).2)))))] ∧ St w w' [.own 2 1 b214 ((linkq).length) c215 linkq, .own 2 1 b187 ((np1).length) c188 np1, .own 2 1 b189 ((np2).length) c190 np2, .blk b193 #[.int .i64 np0, .slice b187 ((np1).length) c188, .slice b189 ((np2).length) c190] 39, .own 2 1 b160 ((mp1).length) c161 mp1, .own 2 1 b162 ((mp2).length) c163 mp2, .blk b166 #[.int .i64 mp0, .slice b160 ((mp1).length) c161, .slice b162 ((mp2).length) c163] 39, .own 2 1 b132 ((linkq).length) c133 linkq, .own 2 1 b120 ((np1).length) c121 np1, .own 2 1 b122 ((np2).length) c123 np2, .own 2 1 b108 ((mp1).length) c109 mp1, .own 2 1 b110 ((mp2).length) c111 mp2, .rd 1 np1A np1.length np1C np1, .rd 1 np2A np2.length np2C np2, .blk b12 #[.int .i64 np0, .slice np1A np1.length np1C, .slice np2A np2.length np2C] 35, .rd 1 mp1A mp1.length mp1C mp1, .rd 1 mp2A mp2.length mp2C mp2, .blk b6 #[.int .i64 mp0, .slice mp1A mp1.length mp1C, .slice mp2A mp2.length mp2C] 35, .rd 1 linkqA linkq.length linkqC linkq]) ?_ ?_
        ·
          refine c_reg ?_
          refine q_step (v := .bool ((F_IsBisimulation mp0 mp1 mp2 np0 np1 np2 linkq).1)) hE242 (y_move rfl) rfl rfl rfl ?_; intro a243 hE244; clear hE242
          refine q_step (v := .bool ((F_s_IsBisimulation mp0 mp1 mp2 np0 np1 np2 linkq).1)) hE244 (y_move rfl) rfl rfl rfl ?_; intro a245 hE246; clear hE244
          refine q_step (v := .bool (((F_IsBisimulation mp0 mp1 mp2 np0 np1 np2 linkq).1) != ((F_s_IsBisimulation mp0 mp1 mp2 np0 np1 np2 linkq).1))) hE246 (y_neqb (by kernel_rfl) rfl rfl) rfl rfl rfl ?_; intro a247 hE248; clear hE246
          refine q_step (v := .bool (((F_IsBisimulation mp0 mp1 mp2 np0 np1 np2 linkq).1) != ((F_s_IsBisimulation mp0 mp1 mp2 np0 np1 np2 linkq).1))) hE248 (y_move rfl) rfl rfl rfl ?_; intro a249 hE250; clear hE248
          rcases Bool.eq_false_or_eq_true (((F_IsBisimulation mp0 mp1 mp2 np0 np1 np2 linkq).1) != ((F_s_IsBisimulation mp0 mp1 mp2 np0 np1 np2 linkq).1)) with hb251 | hb251
          ·
            have hE252 := hE250; rw [hb251] at hE252; clear hE250
            refine q_skip hE252 rfl rfl rfl ?_; intro a253 hE254; clear hE252
            refine q_skip hE254 rfl rfl rfl ?_; intro a255 hE256; clear hE254
            refine q_skip hE256 rfl rfl rfl ?_; intro a257 hE258; clear hE256
            refine q_step (v := .bool true) hE258 (y_pick (b := true) rfl rfl) rfl rfl rfl ?_; intro a259 hE260; clear hE258
            refine c_nil ?_
            have hE261 := hE260.sub (L' := [(2, .slice linkqA linkq.length linkqC), (3, .pointer (some ⟨b6, 0, none⟩)), (4, .pointer (some ⟨b12, 0, none⟩)), (10, .pointer (some ⟨b166, 0, none⟩)), (11, .pointer (some ⟨b193, 0, none⟩)), (12, .slice b214 ((linkq).length) c215), (58, .bool true)]) ⟨rfl, rfl, rfl, rfl, rfl, rfl, rfl, trivial⟩; clear hE260
            refine p_tn ?_
            have hE262 := hE261.sub (L' := [(2, .slice linkqA linkq.length linkqC), (3, .pointer (some ⟨b6, 0, none⟩)), (4, .pointer (some ⟨b12, 0, none⟩)), (10, .pointer (some ⟨b166, 0, none⟩)), (11, .pointer (some ⟨b193, 0, none⟩)), (12, .slice b214 ((linkq).length) c215), (58, .bool true)]) ⟨rfl, rfl, rfl, rfl, rfl, rfl, rfl, trivial⟩
            have hS263 := (St.pick (Γ' := [.own 2 1 b214 ((linkq).length) c215 linkq, .own 2 1 b187 ((np1).length) c188 np1, .own 2 1 b189 ((np2).length) c190 np2, .blk b193 #[.int .i64 np0, .slice b187 ((np1).length) c188, .slice b189 ((np2).length) c190] 39, .own 2 1 b160 ((mp1).length) c161 mp1, .own 2 1 b162 ((mp2).length) c163 mp2, .blk b166 #[.int .i64 mp0, .slice b160 ((mp1).length) c161, .slice b162 ((mp2).length) c163] 39, .own 2 1 b132 ((linkq).length) c133 linkq, .own 2 1 b120 ((np1).length) c121 np1, .own 2 1 b122 ((np2).length) c123 np2, .own 2 1 b108 ((mp1).length) c109 mp1, .own 2 1 b110 ((mp2).length) c111 mp2, .rd 1 np1A np1.length np1C np1, .rd 1 np2A np2.length np2C np2, .blk b12 #[.int .i64 np0, .slice np1A np1.length np1C, .slice np2A np2.length np2C] 35, .rd 1 mp1A mp1.length mp1C mp1, .rd 1 mp2A mp2.length mp2C mp2, .blk b6 #[.int .i64 mp0, .slice mp1A mp1.length mp1C, .slice mp2A mp2.length mp2C] 35, .rd 1 linkqA linkq.length linkqC linkq]) hS230 [0, 2, 3, 1, 5, 6, 4, 7, 8, 9, 10, 11, 16, 15, 12, 18, 17, 13, 14] (by decide) rfl)
            exact ⟨(by rw [hb251]; exact hE262), hS263⟩
          ·
            have hE264 := hE250; rw [hb251] at hE264; clear hE250
            refine q_step (v := .int .i64 ((F_IsBisimulation mp0 mp1 mp2 np0 np1 np2 linkq).2)) hE264 (y_move rfl) rfl rfl rfl ?_; intro a265 hE266; clear hE264
            refine q_step (v := .int .i64 ((F_s_IsBisimulation mp0 mp1 mp2 np0 np1 np2 linkq).2)) hE266 (y_move rfl) rfl rfl rfl ?_; intro a267 hE268; clear hE266
            refine q_step (v := .bool (!decide (((F_IsBisimulation mp0 mp1 mp2 np0 np1 np2 linkq).2) = ((F_s_IsBisimulation mp0 mp1 mp2 np0 np1 np2 linkq).2)))) hE268 (y_neq rfl rfl) rfl rfl rfl ?_; intro a269 hE270; clear hE268
            refine q_step (v := .bool (!decide (((F_IsBisimulation mp0 mp1 mp2 np0 np1 np2 linkq).2) = ((F_s_IsBisimulation mp0 mp1 mp2 np0 np1 np2 linkq).2)))) hE270 (y_pick (b := false) rfl rfl) rfl rfl rfl ?_; intro a271 hE272; clear hE270
            refine c_nil ?_
            have hE273 := hE272.sub (L' := [(2, .slice linkqA linkq.length linkqC), (3, .pointer (some ⟨b6, 0, none⟩)), (4, .pointer (some ⟨b12, 0, none⟩)), (10, .pointer (some ⟨b166, 0, none⟩)), (11, .pointer (some ⟨b193, 0, none⟩)), (12, .slice b214 ((linkq).length) c215), (58, .bool (!decide (((F_IsBisimulation mp0 mp1 mp2 np0 np1 np2 linkq).2) = ((F_s_IsBisimulation mp0 mp1 mp2 np0 np1 np2 linkq).2))))]) ⟨rfl, rfl, rfl, rfl, rfl, rfl, rfl, trivial⟩; clear hE272
            refine p_tn ?_
            have hE274 := hE273.sub (L' := [(2, .slice linkqA linkq.length linkqC), (3, .pointer (some ⟨b6, 0, none⟩)), (4, .pointer (some ⟨b12, 0, none⟩)), (10, .pointer (some ⟨b166, 0, none⟩)), (11, .pointer (some ⟨b193, 0, none⟩)), (12, .slice b214 ((linkq).length) c215), (58, .bool (!decide (((F_IsBisimulation mp0 mp1 mp2 np0 np1 np2 linkq).2) = ((F_s_IsBisimulation mp0 mp1 mp2 np0 np1 np2 linkq).2))))]) ⟨rfl, rfl, rfl, rfl, rfl, rfl, rfl, trivial⟩
            have hS275 := (St.pick (Γ' := [.own 2 1 b214 ((linkq).length) c215 linkq, .own 2 1 b187 ((np1).length) c188 np1, .own 2 1 b189 ((np2).length) c190 np2, .blk b193 #[.int .i64 np0, .slice b187 ((np1).length) c188, .slice b189 ((np2).length) c190] 39, .own 2 1 b160 ((mp1).length) c161 mp1, .own 2 1 b162 ((mp2).length) c163 mp2, .blk b166 #[.int .i64 mp0, .slice b160 ((mp1).length) c161, .slice b162 ((mp2).length) c163] 39, .own 2 1 b132 ((linkq).length) c133 linkq, .own 2 1 b120 ((np1).length) c121 np1, .own 2 1 b122 ((np2).length) c123 np2, .own 2 1 b108 ((mp1).length) c109 mp1, .own 2 1 b110 ((mp2).length) c111 mp2, .rd 1 np1A np1.length np1C np1, .rd 1 np2A np2.length np2C np2, .blk b12 #[.int .i64 np0, .slice np1A np1.length np1C, .slice np2A np2.length np2C] 35, .rd 1 mp1A mp1.length mp1C mp1, .rd 1 mp2A mp2.length mp2C mp2, .blk b6 #[.int .i64 mp0, .slice mp1A mp1.length mp1C, .slice mp2A mp2.length mp2C] 35, .rd 1 linkqA linkq.length linkqC linkq]) hS230 [0, 2, 3, 1, 5, 6, 4, 7, 8, 9, 10, 11, 16, 15, 12, 18, 17, 13, 14] (by decide) rfl)
            exact ⟨(by rw [hb251]; exact hE274), hS275⟩
        ·
          rintro a276 w277 ⟨hE278, hS279⟩; clear hE242 hS230
          refine c_cond hE278 rfl (fun ht280 => ?_) (fun ht280 => ?_)
          ·
            have hE281 := hE278; rw [ht280] at hE281; clear hE278
            refine c_seq ?_
            refine c_reg ?_
            refine q_step (v := .bool false) hE281 (y_assign rfl) rfl rfl rfl ?_; intro a282 hE283; clear hE281
            refine c_nil ?_
            have hE284 := hE283.sub (L' := [(6, .bool false)]) ⟨rfl, trivial⟩; clear hE283
            refine p_tn ?_
            refine wp_ret ?_
            refine p_tr ?_
            have hF : F_l_FnExactIsBisimulation mp0 mp1 mp2 np0 np1 np2 linkq = false := by unfold F_l_FnExactIsBisimulation; rw [ht280, ht84, ht57, ht28]; first | done | rfl
            refine c_ret1 hE284 rfl rfl ?_
            exact ⟨(by rw [hF]; first | done | rfl), hS279.ext⟩
          ·
            obtain ⟨ht285, ht286⟩ := bor_f ht280
            have ht287 := bn_f ht286
            have hp288 := of_decide_eq_true ht287
            have hE289 := hE278; rw [ht280] at hE289; clear hE278
            refine wp_skip ?_
            refine p_tn ?_
            refine c_seq ?_
            refine c_seq ?_
            refine d_start (fun w' => w'.heap[b166]? = some (.cells #[.int .i64 mp0, .slice b160 ((mp1).length) c161, .slice b162 ((mp2).length) c163] 39 (0, 0)) ∧ w'.heap[b6]? = some (.cells #[.int .i64 mp0, .slice mp1A mp1.length mp1C, .slice mp2A mp2.length mp2C] 35 (0, 0)) ∧ True) [0, 1] 5 (by kernel_rfl) rfl ?_
            intro w290 he291; have hS292 := St.go hS279 he291; clear hS279
            refine d_take (v := .agg #[.int .i64 mp0, .slice b160 ((mp1).length) c161, .slice b162 ((mp2).length) c163]) 0 rfl hE289 ⟨(St.row (i := 6) hS292 rfl _ (Ext.refl _)), (St.row (i := 17) hS292 rfl _ (Ext.refl _)), trivial⟩ (y_loadS Try.underlying39 rfl (by kernel_rfl) rfl (fun _ h => h.1)) rfl rfl (by kernel_rfl) (by kernel_rfl) (by kernel_rfl) rfl rfl (fun _ _ _ h => h) ?_; intro a293 hE294; clear hE289
            refine d_take (v := .agg #[.int .i64 mp0, .slice mp1A mp1.length mp1C, .slice mp2A mp2.length mp2C]) 1 rfl hE294 ⟨(St.row (i := 6) hS292 rfl _ (Ext.refl _)), (St.row (i := 17) hS292 rfl _ (Ext.refl _)), trivial⟩ (y_loadS Try.underlying35 rfl (by kernel_rfl) rfl (fun _ h => h.2.1)) rfl rfl (by kernel_rfl) (by kernel_rfl) (by kernel_rfl) rfl rfl (fun _ _ _ h => h) ?_; intro a295 hE296; clear hE294
            refine d_only 2 (by kernel_rfl) rfl hE296 rfl (l_call (f := 24) (argv := [.agg #[.int .i64 mp0, .slice mp1A mp1.length mp1C, .slice mp2A mp2.length mp2C]]) hE296 (fun _ => cf_l_toModel _ _) rfl rfl (d_l_toModel mp0 mp1A mp1.length mp1C mp1 mp2A mp2.length mp2C mp2 w290 (St.rdR (i := 15) hS292 rfl) (St.rdR (i := 16) hS292 rfl) (by first | omega | (simp only [marked_len]; omega)) (by first | omega | (simp only [marked_len]; omega))) ?_)
            rintro _ w298 ⟨b303, c304, b305, c306, rfl, ho307, he302⟩ a299 hE300; clear hE296
            have hS301 := St.push2 hS292 he302 ho307; clear hS292
            refine ⟨fun _ _ => ⟨(St.row (i := 8) hS301 rfl _ (Ext.refl _)), (St.row (i := 19) hS301 rfl _ (Ext.refl _)), trivial⟩, ?_⟩
            refine d_only 3 (by kernel_rfl) rfl hE300 rfl (l_call (f := 26) (argv := [.agg #[.int .i64 mp0, .slice b160 ((mp1).length) c161, .slice b162 ((mp2).length) c163], .agg #[.int .i64 mp0, .slice b303 ((mp1).length) c304, .slice b305 ((mp2).length) c306]]) hE300 (fun _ => cf_l_eqModel _ _) rfl rfl (d_l_eqModel mp0 b160 ((mp1).length) c161 mp1 b162 ((mp2).length) c163 mp2 mp0 b303 ((mp1).length) c304 mp1 b305 ((mp2).length) c306 mp2 w298 (St.rdO (i := 6) hS301 rfl) (St.rdO (i := 7) hS301 rfl) (St.rdO (i := 0) hS301 rfl) (St.rdO (i := 1) hS301 rfl)) ?_)
            rintro _ w310 ⟨rfl, he314⟩ a311 hE312; clear hE300
            have hS313 := St.go hS301 he314; clear hS301
            refine ⟨fun _ _ => ⟨(St.row (i := 8) hS313 rfl _ (Ext.refl _)), (St.row (i := 19) hS313 rfl _ (Ext.refl _)), trivial⟩, ?_⟩
            refine d_pure (v := .bool (!(decide ((mp0, mp1, mp2) = (mp0, mp1, mp2))))) 4 rfl hE312 (y_not rfl) rfl (by kernel_rfl) (by kernel_rfl) (by kernel_rfl) rfl rfl (fun _ _ _ h => h) ?_; intro a315 hE316; clear hE312
            refine d_done (by kernel_rfl) ?_
            have hE317 := hE316.sub (L' := [(2, .slice linkqA linkq.length linkqC), (4, .pointer (some ⟨b12, 0, none⟩)), (11, .pointer (some ⟨b193, 0, none⟩)), (12, .slice b214 ((linkq).length) c215), (63, .bool (!(decide ((mp0, mp1, mp2) = (mp0, mp1, mp2)))))]) ⟨rfl, rfl, rfl, rfl, rfl, trivial⟩; clear hE316
            refine p_tn ?_
            refine c_cond hE317 rfl (fun ht318 => ?_) (fun ht318 => ?_)
            ·
              have ht319 := bn_t ht318
              have hp320 := of_decide_eq_false ht319
              have hE321 := hE317; rw [ht318] at hE321; clear hE317
              refine c_seq ?_
              refine c_reg ?_
              refine q_step (v := .bool false) hE321 (y_assign rfl) rfl rfl rfl ?_; intro a322 hE323; clear hE321
              refine c_nil ?_
              have hE324 := hE323.sub (L' := [(6, .bool false)]) ⟨rfl, trivial⟩; clear hE323
              refine p_tn ?_
              refine wp_ret ?_
              refine p_tr ?_
              have hF : F_l_FnExactIsBisimulation mp0 mp1 mp2 np0 np1 np2 linkq = false := by unfold F_l_FnExactIsBisimulation; rw [ht318, ht280, ht84, ht57, ht28]; first | done | rfl
              refine c_ret1 hE324 rfl rfl ?_
              exact ⟨(by rw [hF]; first | done | rfl), hS313.ext⟩
            ·
              have ht325 := bn_f ht318
              have hp326 := of_decide_eq_true ht325
              have hE327 := hE317; rw [ht318] at hE327; clear hE317
              refine wp_skip ?_
              refine p_tn ?_
              refine c_seq ?_
              refine c_seq ?_
              refine d_start (fun w' => w'.heap[b193]? = some (.cells #[.int .i64 np0, .slice b187 ((np1).length) c188, .slice b189 ((np2).length) c190] 39 (0, 0)) ∧ w'.heap[b12]? = some (.cells #[.int .i64 np0, .slice np1A np1.length np1C, .slice np2A np2.length np2C] 35 (0, 0)) ∧ True) [0, 1] 5 (by kernel_rfl) rfl ?_
              intro w328 he329; have hS330 := St.go hS313 he329; clear hS313
              refine d_take (v := .agg #[.int .i64 np0, .slice b187 ((np1).length) c188, .slice b189 ((np2).length) c190]) 0 rfl hE327 ⟨(St.row (i := 5) hS330 rfl _ (Ext.refl _)), (St.row (i := 16) hS330 rfl _ (Ext.refl _)), trivial⟩ (y_loadS Try.underlying39 rfl (by kernel_rfl) rfl (fun _ h => h.1)) rfl rfl (by kernel_rfl) (by kernel_rfl) (by kernel_rfl) rfl rfl (fun _ _ _ h => h) ?_; intro a331 hE332; clear hE327
              refine d_take (v := .agg #[.int .i64 np0, .slice np1A np1.length np1C, .slice np2A np2.length np2C]) 1 rfl hE332 ⟨(St.row (i := 5) hS330 rfl _ (Ext.refl _)), (St.row (i := 16) hS330 rfl _ (Ext.refl _)), trivial⟩ (y_loadS Try.underlying35 rfl (by kernel_rfl) rfl (fun _ h => h.2.1)) rfl rfl (by kernel_rfl) (by kernel_rfl) (by kernel_rfl) rfl rfl (fun _ _ _ h => h) ?_; intro a333 hE334; clear hE332
              refine d_only 2 (by kernel_rfl) rfl hE334 rfl (l_call (f := 24) (argv := [.agg #[.int .i64 np0, .slice np1A np1.length np1C, .slice np2A np2.length np2C]]) hE334 (fun _ => cf_l_toModel _ _) rfl rfl (d_l_toModel np0 np1A np1.length np1C np1 np2A np2.length np2C np2 w328 (St.rdR (i := 14) hS330 rfl) (St.rdR (i := 15) hS330 rfl) (by first | omega | (simp only [marked_len]; omega)) (by first | omega | (simp only [marked_len]; omega))) ?_)
              rintro _ w336 ⟨b341, c342, b343, c344, rfl, ho345, he340⟩ a337 hE338; clear hE334
              have hS339 := St.push2 hS330 he340 ho345; clear hS330
              refine ⟨fun _ _ => ⟨(St.row (i := 7) hS339 rfl _ (Ext.refl _)), (St.row (i := 18) hS339 rfl _ (Ext.refl _)), trivial⟩, ?_⟩
              refine d_only 3 (by kernel_rfl) rfl hE338 rfl (l_call (f := 26) (argv := [.agg #[.int .i64 np0, .slice b187 ((np1).length) c188, .slice b189 ((np2).length) c190], .agg #[.int .i64 np0, .slice b341 ((np1).length) c342, .slice b343 ((np2).length) c344]]) hE338 (fun _ => cf_l_eqModel _ _) rfl rfl (d_l_eqModel np0 b187 ((np1).length) c188 np1 b189 ((np2).length) c190 np2 np0 b341 ((np1).length) c342 np1 b343 ((np2).length) c344 np2 w336 (St.rdO (i := 5) hS339 rfl) (St.rdO (i := 6) hS339 rfl) (St.rdO (i := 0) hS339 rfl) (St.rdO (i := 1) hS339 rfl)) ?_)
              rintro _ w348 ⟨rfl, he352⟩ a349 hE350; clear hE338
              have hS351 := St.go hS339 he352; clear hS339
              refine ⟨fun _ _ => ⟨(St.row (i := 7) hS351 rfl _ (Ext.refl _)), (St.row (i := 18) hS351 rfl _ (Ext.refl _)), trivial⟩, ?_⟩
              refine d_pure (v := .bool (!(decide ((np0, np1, np2) = (np0, np1, np2))))) 4 rfl hE350 (y_not rfl) rfl (by kernel_rfl) (by kernel_rfl) (by kernel_rfl) rfl rfl (fun _ _ _ h => h) ?_; intro a353 hE354; clear hE350
              refine d_done (by kernel_rfl) ?_
              have hE355 := hE354.sub (L' := [(2, .slice linkqA linkq.length linkqC), (12, .slice b214 ((linkq).length) c215), (68, .bool (!(decide ((np0, np1, np2) = (np0, np1, np2)))))]) ⟨rfl, rfl, rfl, trivial⟩; clear hE354
              refine p_tn ?_
              refine c_cond hE355 rfl (fun ht356 => ?_) (fun ht356 => ?_)
              ·
                have ht357 := bn_t ht356
                have hp358 := of_decide_eq_false ht357
                have hE359 := hE355; rw [ht356] at hE359; clear hE355
                refine c_seq ?_
                refine c_reg ?_
                refine q_step (v := .bool false) hE359 (y_assign rfl) rfl rfl rfl ?_; intro a360 hE361; clear hE359
                refine c_nil ?_
                have hE362 := hE361.sub (L' := [(6, .bool false)]) ⟨rfl, trivial⟩; clear hE361
                refine p_tn ?_
                refine wp_ret ?_
                refine p_tr ?_
                have hF : F_l_FnExactIsBisimulation mp0 mp1 mp2 np0 np1 np2 linkq = false := by unfold F_l_FnExactIsBisimulation; rw [ht356, ht318, ht280, ht84, ht57, ht28]; first | done | rfl
                refine c_ret1 hE362 rfl rfl ?_
                exact ⟨(by rw [hF]; first | done | rfl), hS351.ext⟩
              ·
                have ht363 := bn_f ht356
                have hp364 := of_decide_eq_true ht363
                have hE365 := hE355; rw [ht356] at hE365; clear hE355
                refine wp_skip ?_
                refine p_tn ?_
                refine c_seq ?_
                refine c_seq ?_
                refine c_reg ?_
                refine q_step (v := .slice b214 ((linkq).length) c215) hE365 (y_move rfl) rfl rfl rfl ?_; intro a366 hE367; clear hE365
                refine q_step (v := .slice linkqA linkq.length linkqC) hE367 (y_move rfl) rfl rfl rfl ?_; intro a368 hE369; clear hE367
                refine l_step hE369 rfl (l_call (f := 18) (argv := [.slice linkqA linkq.length linkqC]) hE369 (fun _ => cf_l_toInt64S _ _) rfl rfl (d_l_toInt64S linkqA linkq.length linkqC linkq w348 (St.rdR (i := 22) hS351 rfl) (by first | omega | (simp only [marked_len]; omega))) ?_)
                rintro _ w371 ⟨b376, c377, rfl, ho378, he375⟩ a372 hE373; clear hE369
                have hS374 := St.own hS351 he375 ho378; clear hS351
                refine l_step hE373 rfl (l_call (f := 21) (argv := [.slice b214 ((linkq).length) c215, .slice b376 ((linkq).length) c377]) hE373 (fun _ => cf_l_eqInt64S _ _) rfl rfl (d_l_eqInt64S b214 ((linkq).length) c215 linkq b376 ((linkq).length) c377 linkq w371 (St.rdO (i := 5) hS374 rfl) (St.rdO (i := 0) hS374 rfl)) ?_)
                rintro _ w380 ⟨rfl, he384⟩ a381 hE382; clear hE373
                have hS383 := St.go hS374 he384; clear hS374
                refine q_step (v := .bool (!(decide (linkq = linkq)))) hE382 (y_not rfl) rfl rfl rfl ?_; intro a385 hE386; clear hE382
                refine c_nil ?_
                have hE387 := hE386.sub (L' := [(73, .bool (!(decide (linkq = linkq))))]) ⟨rfl, trivial⟩; clear hE386
                refine p_tn ?_
                refine c_cond hE387 rfl (fun ht388 => ?_) (fun ht388 => ?_)
                ·
                  have ht389 := bn_t ht388
                  have hp390 := of_decide_eq_false ht389
                  have hE391 := hE387; rw [ht388] at hE391; clear hE387
                  refine c_seq ?_
                  refine c_reg ?_
                  refine q_step (v := .bool false) hE391 (y_assign rfl) rfl rfl rfl ?_; intro a392 hE393; clear hE391
                  refine c_nil ?_
                  have hE394 := hE393.sub (L' := [(6, .bool false)]) ⟨rfl, trivial⟩; clear hE393
                  refine p_tn ?_
                  refine wp_ret ?_
                  refine p_tr ?_
                  have hF : F_l_FnExactIsBisimulation mp0 mp1 mp2 np0 np1 np2 linkq = false := by unfold F_l_FnExactIsBisimulation; rw [ht388, ht356, ht318, ht280, ht84, ht57, ht28]; first | done | rfl
                  refine c_ret1 hE394 rfl rfl ?_
                  exact ⟨(by rw [hF]; first | done | rfl), hS383.ext⟩
                ·
                  have ht395 := bn_f ht388
                  have hp396 := of_decide_eq_true ht395
                  have hE397 := hE387; rw [ht388] at hE397; clear hE387
                  refine wp_skip ?_
                  refine p_tn ?_
                  refine c_seq ?_
                  refine c_reg ?_
                  refine q_step (v := .bool true) hE397 (y_assign rfl) rfl rfl rfl ?_; intro a398 hE399; clear hE397
                  refine c_nil ?_
                  have hE400 := hE399.sub (L' := [(6, .bool true)]) ⟨rfl, trivial⟩; clear hE399
                  refine p_tn ?_
                  refine wp_ret ?_
                  have hF : F_l_FnExactIsBisimulation mp0 mp1 mp2 np0 np1 np2 linkq = true := by unfold F_l_FnExactIsBisimulation; rw [ht388, ht356, ht318, ht280, ht84, ht57, ht28]; first | done | rfl
                  refine c_ret1 hE400 rfl rfl ?_
                  exact ⟨(by rw [hF]; first | done | rfl), hS383.ext⟩

theorem FnExactIsBisimulation_true (mp0 : Int) (mp1 mp2 : List Int) (np0 : Int) (np1 np2 : List Int) (linkq : List Int) : F_l_FnExactIsBisimulation mp0 mp1 mp2 np0 np1 np2 linkq = true := by
  unfold F_l_FnExactIsBisimulation
  rw [IsBisimulation_eq]
  have h1 : decide (1 + (mp1.length : Int) + (mp2.length : Int) + ((np1.length : Int) + (np2.length : Int)) + (linkq.length : Int) < 0) = false := decide_eq_false (by omega)
  simp [h1]

end Go.Proofs.Ytlmmmblnaiddhaa
