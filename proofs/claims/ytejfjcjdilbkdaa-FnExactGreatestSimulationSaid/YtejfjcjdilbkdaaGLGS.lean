/- GLGS: models and contracts, printed by wip/gen/gen.py -/
import Derived.Test.YtejfjcjdilbkdaaGAM
import Derived.Test.YtejfjcjdilbkdaaGGS
set_option linter.unusedVariables false
set_option linter.unusedSimpArgs false
namespace Go.Proofs.Ytejfjcjdilbkdaa
open Go.RowKit

def F_l_FnExactGreatestSimulation (mp0 : Int) (mp1 : List Int) (mp2 : List Int) (np0 : Int) (np1 : List Int) (np2 : List Int) : Bool :=
  bif (decide ((F_l_szModel mp0 mp1 mp2 1048576) < 0)) then true else (bif (decide ((F_l_szModel np0 np1 np2 (F_l_szModel mp0 mp1 mp2 1048576)) < 0)) then true else (bif ((!(decide (((F_GreatestSimulation mp0 mp1 mp2 np0 np1 np2).1) = ((F_s_GreatestSimulation mp0 mp1 mp2 np0 np1 np2).1)))) || (!decide (((F_GreatestSimulation mp0 mp1 mp2 np0 np1 np2).2) = ((F_s_GreatestSimulation mp0 mp1 mp2 np0 np1 np2).2)))) then false else (bif (!(decide ((mp0, mp1, mp2) = (mp0, mp1, mp2)))) then false else (bif (!(decide ((np0, np1, np2) = (np0, np1, np2)))) then false else (bif ((decide (((1 + (mp1.length : Int) + (mp2.length : Int)) + (np1.length : Int) + (np2.length : Int)) < 0)) || ((!(decide (((F_GreatestSimulation mp0 mp1 mp2 np0 np1 np2).1) = ((F_s_GreatestSimulation mp0 mp1 mp2 np0 np1 np2).1)))) || (!decide (((F_GreatestSimulation mp0 mp1 mp2 np0 np1 np2).2) = ((F_s_GreatestSimulation mp0 mp1 mp2 np0 np1 np2).2))))) then false else (bif (decide ((F_l_heldInt64S (marked ((F_GreatestSimulation mp0 mp1 mp2 np0 np1 np2).1).length 1) 1) < 0)) then false else (bif (!decide ((F_l_heldInt64S (marked ((F_GreatestSimulation mp0 mp1 mp2 np0 np1 np2).1).length 1) 1) = (1 + (((F_GreatestSimulation mp0 mp1 mp2 np0 np1 np2).1).length : Int)))) then false else true)))))))
theorem cf_l_FnExactGreatestSimulation (args : Array Value) (w : World) : (callFunc 11 args).run Try.prog w = .ok (.enter 11 args) w := by kernel_rfl
set_option maxRecDepth 100000 in
theorem c_l_FnExactGreatestSimulation (mp0 : Int) (mp1A : Option Addr) (mp1N mp1C : Nat) (mp1 : List Int) (mp2A : Option Addr) (mp2N mp2C : Nat) (mp2 : List Int) (np0 : Int) (np1A : Option Addr) (np1N np1C : Nat) (np1 : List Int) (np2A : Option Addr) (np2N np2C : Nat) (np2 : List Int) (w : World) (mp1R : RdS w 1 mp1A mp1N mp1C mp1) (mp2R : RdS w 1 mp2A mp2N mp2C mp2) (np1R : RdS w 1 np1A np1N np1C np1) (np2R : RdS w 1 np2A np2N np2C np2) :
    Calls Try.prog 11 #[.agg #[.int .i64 mp0, .slice mp1A mp1N mp1C, .slice mp2A mp2N mp2C], .agg #[.int .i64 np0, .slice np1A np1N np1C, .slice np2A np2N np2C]] w (Ret fun v w' => v = .bool (F_l_FnExactGreatestSimulation mp0 mp1 mp2 np0 np1 np2) ∧ Ext w w') := by
  obtain rfl : mp1N = mp1.length := mp1R.len1.symm
  have mp1Le := mp1R.le
  obtain rfl : mp2N = mp2.length := mp2R.len1.symm
  have mp2Le := mp2R.le
  obtain rfl : np1N = np1.length := np1R.len1.symm
  have np1Le := np1R.le
  obtain rfl : np2N = np2.length := np2R.len1.symm
  have np2Le := np2R.le
  have hS := St.nil w
  have hS1 := St.rd0 hS rfl mp1R; clear hS
  have hS2 := St.rd0 hS1 rfl mp2R; clear hS1
  have hS3 := St.rd0 hS2 rfl np1R; clear hS2
  have hS4 := St.rd0 hS3 rfl np2R; clear hS3
  refine enter (args := [.agg #[.int .i64 mp0, .slice mp1A mp1.length mp1C, .slice mp2A mp2.length mp2C], .agg #[.int .i64 np0, .slice np1A np1.length np1C, .slice np2A np2.length np2C]]) Try.func11 rfl rfl ?_
  rw [Try.ntmps11]; intro a hE
  have hE := hE.sub (L' := [(0, .agg #[.int .i64 mp0, .slice mp1A mp1.length mp1C, .slice mp2A mp2.length mp2C]), (1, .agg #[.int .i64 np0, .slice np1A np1.length np1C, .slice np2A np2.length np2C])]) ⟨rfl, rfl, trivial⟩
  refine c_seq ?_
  refine c_reg ?_
  refine l_step hE rfl (l_box (v := .agg #[.int .i64 mp0, .slice mp1A mp1.length mp1C, .slice mp2A mp2.length mp2C]) (cs := #[.int .i64 mp0, .slice mp1A mp1.length mp1C, .slice mp2A mp2.length mp2C]) hS4 hE rfl rfl rfl ?_)
  intro b5 w6 hS9 he10 a7 hE8; clear hS4 hE
  refine l_step hE8 rfl (l_box (v := .agg #[.int .i64 np0, .slice np1A np1.length np1C, .slice np2A np2.length np2C]) (cs := #[.int .i64 np0, .slice np1A np1.length np1C, .slice np2A np2.length np2C]) hS9 hE8 rfl rfl rfl ?_)
  intro b11 w12 hS15 he16 a13 hE14; clear hS9 hE8
  refine q_step (v := .bool false) hE14 (y_assign rfl) rfl rfl rfl ?_; intro a17 hE18; clear hE14
  refine c_nil ?_
  have hE19 := hE18.sub (L' := [(2, .pointer (some ⟨b5, 0, none⟩)), (3, .pointer (some ⟨b11, 0, none⟩))]) ⟨rfl, rfl, trivial⟩; clear hE18
  refine p_tn ?_
  refine c_seq ?_
  refine c_reg ?_
  refine q_step (v := .int .i64 1048576) hE19 (y_assign rfl) rfl rfl rfl ?_; intro a20 hE21; clear hE19
  refine c_nil ?_
  have hE22 := hE21.sub (L' := [(2, .pointer (some ⟨b5, 0, none⟩)), (3, .pointer (some ⟨b11, 0, none⟩)), (5, .int .i64 1048576)]) ⟨rfl, rfl, rfl, trivial⟩; clear hE21
  refine p_tn ?_
  refine c_seq ?_
  refine c_reg ?_
  refine q_step (v := .agg #[.int .i64 mp0, .slice mp1A mp1.length mp1C, .slice mp2A mp2.length mp2C]) hE22 (y_loadS Try.underlying35 rfl (by kernel_rfl) rfl (St.row (i := 1) hS15 rfl)) rfl rfl rfl ?_; intro a23 hE24; clear hE22
  refine q_step (v := .int .i64 1048576) hE24 (y_move rfl) rfl rfl rfl ?_; intro a25 hE26; clear hE24
  refine l_step hE26 rfl (l_call (f := 22) (argv := [.agg #[.int .i64 mp0, .slice mp1A mp1.length mp1C, .slice mp2A mp2.length mp2C], .int .i64 1048576]) hE26 (fun _ => cf_l_szModel _ _) rfl rfl (c_l_szModel mp0 mp1A mp1.length mp1C mp1 mp2A mp2.length mp2C mp2 1048576 w12 (St.rdR (i := 5) hS15 rfl) (St.rdR (i := 4) hS15 rfl) (by first | omega | (simp only [marked_len]; omega)) (by first | omega | (simp only [marked_len]; omega))) ?_)
  rintro _ w28 ⟨rfl, he32⟩ a29 hE30; clear hE26
  have hS31 := St.go hS15 he32; clear hS15
  refine q_step (v := .int .i64 (F_l_szModel mp0 mp1 mp2 1048576)) hE30 (y_assign rfl) rfl rfl rfl ?_; intro a33 hE34; clear hE30
  refine c_nil ?_
  have hE35 := hE34.sub (L' := [(2, .pointer (some ⟨b5, 0, none⟩)), (3, .pointer (some ⟨b11, 0, none⟩)), (5, .int .i64 (F_l_szModel mp0 mp1 mp2 1048576))]) ⟨rfl, rfl, rfl, trivial⟩; clear hE34
  refine p_tn ?_
  refine c_seq ?_
  refine c_seq ?_
  refine c_reg ?_
  refine q_step (v := .int .i64 (F_l_szModel mp0 mp1 mp2 1048576)) hE35 (y_move rfl) rfl rfl rfl ?_; intro a36 hE37; clear hE35
  refine q_step (v := .bool (decide ((F_l_szModel mp0 mp1 mp2 1048576) < 0))) hE37 (y_lss rfl rfl) rfl rfl rfl ?_; intro a38 hE39; clear hE37
  refine c_nil ?_
  have hE40 := hE39.sub (L' := [(2, .pointer (some ⟨b5, 0, none⟩)), (3, .pointer (some ⟨b11, 0, none⟩)), (5, .int .i64 (F_l_szModel mp0 mp1 mp2 1048576)), (21, .bool (decide ((F_l_szModel mp0 mp1 mp2 1048576) < 0)))]) ⟨rfl, rfl, rfl, rfl, trivial⟩; clear hE39
  refine p_tn ?_
  refine c_cond hE40 rfl (fun ht41 => ?_) (fun ht41 => ?_)
  ·
    have hp42 := of_decide_eq_true ht41
    have hE43 := hE40; rw [ht41] at hE43; clear hE40
    refine c_seq ?_
    refine c_reg ?_
    refine q_step (v := .bool true) hE43 (y_assign rfl) rfl rfl rfl ?_; intro a44 hE45; clear hE43
    refine c_nil ?_
    have hE46 := hE45.sub (L' := [(4, .bool true)]) ⟨rfl, trivial⟩; clear hE45
    refine p_tn ?_
    refine wp_ret ?_
    refine p_tr ?_
    have hF : F_l_FnExactGreatestSimulation mp0 mp1 mp2 np0 np1 np2 = true := by unfold F_l_FnExactGreatestSimulation; rw [ht41]; first | done | rfl
    refine c_ret1 hE46 rfl rfl ?_
    exact ⟨(by rw [hF]; first | done | rfl), hS31.ext⟩
  ·
    have hp47 := of_decide_eq_false ht41
    have hq48 := szModel_bound hp47
    have hE49 := hE40; rw [ht41] at hE49; clear hE40
    refine wp_skip ?_
    refine p_tn ?_
    refine c_seq ?_
    refine c_reg ?_
    refine q_step (v := .agg #[.int .i64 np0, .slice np1A np1.length np1C, .slice np2A np2.length np2C]) hE49 (y_loadS Try.underlying35 rfl (by kernel_rfl) rfl (St.row (i := 0) hS31 rfl)) rfl rfl rfl ?_; intro a50 hE51; clear hE49
    refine q_step (v := .int .i64 (F_l_szModel mp0 mp1 mp2 1048576)) hE51 (y_move rfl) rfl rfl rfl ?_; intro a52 hE53; clear hE51
    refine l_step hE53 rfl (l_call (f := 22) (argv := [.agg #[.int .i64 np0, .slice np1A np1.length np1C, .slice np2A np2.length np2C], .int .i64 (F_l_szModel mp0 mp1 mp2 1048576)]) hE53 (fun _ => cf_l_szModel _ _) rfl rfl (c_l_szModel np0 np1A np1.length np1C np1 np2A np2.length np2C np2 (F_l_szModel mp0 mp1 mp2 1048576) w28 (St.rdR (i := 3) hS31 rfl) (St.rdR (i := 2) hS31 rfl) (by first | omega | (simp only [marked_len]; omega)) (by first | omega | (simp only [marked_len]; omega))) ?_)
    rintro _ w55 ⟨rfl, he59⟩ a56 hE57; clear hE53
    have hS58 := St.go hS31 he59; clear hS31
    refine q_step (v := .int .i64 (F_l_szModel np0 np1 np2 (F_l_szModel mp0 mp1 mp2 1048576))) hE57 (y_assign rfl) rfl rfl rfl ?_; intro a60 hE61; clear hE57
    refine c_nil ?_
    have hE62 := hE61.sub (L' := [(2, .pointer (some ⟨b5, 0, none⟩)), (3, .pointer (some ⟨b11, 0, none⟩)), (5, .int .i64 (F_l_szModel np0 np1 np2 (F_l_szModel mp0 mp1 mp2 1048576)))]) ⟨rfl, rfl, rfl, trivial⟩; clear hE61
    refine p_tn ?_
    refine c_seq ?_
    refine c_seq ?_
    refine c_reg ?_
    refine q_step (v := .int .i64 (F_l_szModel np0 np1 np2 (F_l_szModel mp0 mp1 mp2 1048576))) hE62 (y_move rfl) rfl rfl rfl ?_; intro a63 hE64; clear hE62
    refine q_step (v := .bool (decide ((F_l_szModel np0 np1 np2 (F_l_szModel mp0 mp1 mp2 1048576)) < 0))) hE64 (y_lss rfl rfl) rfl rfl rfl ?_; intro a65 hE66; clear hE64
    refine c_nil ?_
    have hE67 := hE66.sub (L' := [(2, .pointer (some ⟨b5, 0, none⟩)), (3, .pointer (some ⟨b11, 0, none⟩)), (26, .bool (decide ((F_l_szModel np0 np1 np2 (F_l_szModel mp0 mp1 mp2 1048576)) < 0)))]) ⟨rfl, rfl, rfl, trivial⟩; clear hE66
    refine p_tn ?_
    refine c_cond hE67 rfl (fun ht68 => ?_) (fun ht68 => ?_)
    ·
      have hp69 := of_decide_eq_true ht68
      have hE70 := hE67; rw [ht68] at hE70; clear hE67
      refine c_seq ?_
      refine c_reg ?_
      refine q_step (v := .bool true) hE70 (y_assign rfl) rfl rfl rfl ?_; intro a71 hE72; clear hE70
      refine c_nil ?_
      have hE73 := hE72.sub (L' := [(4, .bool true)]) ⟨rfl, trivial⟩; clear hE72
      refine p_tn ?_
      refine wp_ret ?_
      refine p_tr ?_
      have hF : F_l_FnExactGreatestSimulation mp0 mp1 mp2 np0 np1 np2 = true := by unfold F_l_FnExactGreatestSimulation; rw [ht68, ht41]; first | done | rfl
      refine c_ret1 hE73 rfl rfl ?_
      exact ⟨(by rw [hF]; first | done | rfl), hS58.ext⟩
    ·
      have hp74 := of_decide_eq_false ht68
      have hq75 := szModel_bound hp74
      have hE76 := hE67; rw [ht68] at hE76; clear hE67
      refine wp_skip ?_
      refine p_tn ?_
      refine c_seq ?_
      refine d_start (fun w' => w'.heap[b5]? = some (.cells #[.int .i64 mp0, .slice mp1A mp1.length mp1C, .slice mp2A mp2.length mp2C] 35 (0, 0)) ∧ w'.heap[b11]? = some (.cells #[.int .i64 np0, .slice np1A np1.length np1C, .slice np2A np2.length np2C] 35 (0, 0)) ∧ True) [0, 2] 10 (by kernel_rfl) rfl ?_
      intro w77 he78; have hS79 := St.go hS58 he78; clear hS58
      refine d_take (v := .agg #[.int .i64 mp0, .slice mp1A mp1.length mp1C, .slice mp2A mp2.length mp2C]) 0 rfl hE76 ⟨(St.row (i := 1) hS79 rfl _ (Ext.refl _)), (St.row (i := 0) hS79 rfl _ (Ext.refl _)), trivial⟩ (y_loadS Try.underlying35 rfl (by kernel_rfl) rfl (fun _ h => h.1)) rfl rfl (by kernel_rfl) (by kernel_rfl) (by kernel_rfl) rfl rfl (fun _ _ _ h => h) ?_; intro a80 hE81; clear hE76
      refine d_take (v := .agg #[.int .i64 np0, .slice np1A np1.length np1C, .slice np2A np2.length np2C]) 2 rfl hE81 ⟨(St.row (i := 1) hS79 rfl _ (Ext.refl _)), (St.row (i := 0) hS79 rfl _ (Ext.refl _)), trivial⟩ (y_loadS Try.underlying35 rfl (by kernel_rfl) rfl (fun _ h => h.2.1)) rfl rfl (by kernel_rfl) (by kernel_rfl) (by kernel_rfl) rfl rfl (fun _ _ _ h => h) ?_; intro a82 hE83; clear hE81
      refine d_only 1 (by kernel_rfl) rfl hE83 rfl (l_call (f := 24) (argv := [.agg #[.int .i64 mp0, .slice mp1A mp1.length mp1C, .slice mp2A mp2.length mp2C]]) hE83 (fun _ => cf_l_toModel _ _) rfl rfl (d_l_toModel mp0 mp1A mp1.length mp1C mp1 mp2A mp2.length mp2C mp2 w77 (St.rdR (i := 5) hS79 rfl) (St.rdR (i := 4) hS79 rfl) (by first | omega | (simp only [marked_len]; omega)) (by first | omega | (simp only [marked_len]; omega))) ?_)
      rintro _ w85 ⟨b90, c91, b92, c93, rfl, ho94, he89⟩ a86 hE87; clear hE83
      have hS88 := St.push2 hS79 he89 ho94; clear hS79
      refine ⟨fun _ _ => ⟨(St.row (i := 3) hS88 rfl _ (Ext.refl _)), (St.row (i := 2) hS88 rfl _ (Ext.refl _)), trivial⟩, ?_⟩
      refine d_only 3 (by kernel_rfl) rfl hE87 rfl (l_call (f := 24) (argv := [.agg #[.int .i64 np0, .slice np1A np1.length np1C, .slice np2A np2.length np2C]]) hE87 (fun _ => cf_l_toModel _ _) rfl rfl (d_l_toModel np0 np1A np1.length np1C np1 np2A np2.length np2C np2 w85 (St.rdR (i := 5) hS88 rfl) (St.rdR (i := 4) hS88 rfl) (by first | omega | (simp only [marked_len]; omega)) (by first | omega | (simp only [marked_len]; omega))) ?_)
      rintro _ w97 ⟨b102, c103, b104, c105, rfl, ho106, he101⟩ a98 hE99; clear hE87
      have hS100 := St.push2 hS88 he101 ho106; clear hS88
      refine ⟨fun _ _ => ⟨(St.row (i := 5) hS100 rfl _ (Ext.refl _)), (St.row (i := 4) hS100 rfl _ (Ext.refl _)), trivial⟩, ?_⟩
      refine d_only 4 (by kernel_rfl) rfl hE99 rfl (l_call (f := 50) (argv := [.agg #[.int .i64 mp0, .slice b90 ((mp1).length) c91, .slice b92 ((mp2).length) c93], .agg #[.int .i64 np0, .slice b102 ((np1).length) c103, .slice b104 ((np2).length) c105]]) hE99 (fun _ => cf_s_GreatestSimulation _ _) rfl rfl (c_s_GreatestSimulation mp0 b90 ((mp1).length) c91 mp1 b92 ((mp2).length) c93 mp2 np0 b102 ((np1).length) c103 np1 b104 ((np2).length) c105 np2 w97 (St.rdO (i := 2) hS100 rfl) (St.rdO (i := 3) hS100 rfl) (St.rdO (i := 0) hS100 rfl) (St.rdO (i := 1) hS100 rfl)) ?_)
      rintro _ w109 ⟨b114, c115, rfl, ho116, he113⟩ a110 hE111; clear hE99
      have hS112 := St.own hS100 he113 ho116; clear hS100
      refine ⟨fun _ _ => ⟨(St.row (i := 6) hS112 rfl _ (Ext.refl _)), (St.row (i := 5) hS112 rfl _ (Ext.refl _)), trivial⟩, ?_⟩
      refine d_pure (v := .tuple #[.slice b114 (((F_s_GreatestSimulation mp0 mp1 mp2 np0 np1 np2).1).length) c115, .int .i64 ((F_s_GreatestSimulation mp0 mp1 mp2 np0 np1 np2).2)]) 5 rfl hE111 (y_move rfl) rfl (by kernel_rfl) (by kernel_rfl) (by kernel_rfl) rfl rfl (fun _ _ _ h => h) ?_; intro a117 hE118; clear hE111
      refine d_pure (v := .slice b114 (((F_s_GreatestSimulation mp0 mp1 mp2 np0 np1 np2).1).length) c115) 6 rfl hE118 (y_extract rfl rfl) rfl (by kernel_rfl) (by kernel_rfl) (by kernel_rfl) rfl rfl (fun _ _ _ h => h) ?_; intro a119 hE120; clear hE118
      refine d_pure (v := .int .i64 ((F_s_GreatestSimulation mp0 mp1 mp2 np0 np1 np2).2)) 7 rfl hE120 (y_extract rfl rfl) rfl (by kernel_rfl) (by kernel_rfl) (by kernel_rfl) rfl rfl (fun _ _ _ h => h) ?_; intro a121 hE122; clear hE120
      refine d_pure (v := .slice b114 (((F_s_GreatestSimulation mp0 mp1 mp2 np0 np1 np2).1).length) c115) 8 rfl hE122 (y_assign rfl) rfl (by kernel_rfl) (by kernel_rfl) (by kernel_rfl) rfl rfl (fun _ _ _ h => h) ?_; intro a123 hE124; clear hE122
      refine d_pure (v := .int .i64 ((F_s_GreatestSimulation mp0 mp1 mp2 np0 np1 np2).2)) 9 rfl hE124 (y_assign rfl) rfl (by kernel_rfl) (by kernel_rfl) (by kernel_rfl) rfl rfl (fun _ _ _ h => h) ?_; intro a125 hE126; clear hE124
      refine d_done (by kernel_rfl) ?_
      have hE127 := hE126.sub (L' := [(2, .pointer (some ⟨b5, 0, none⟩)), (3, .pointer (some ⟨b11, 0, none⟩)), (6, .slice b114 (((F_s_GreatestSimulation mp0 mp1 mp2 np0 np1 np2).1).length) c115), (7, .int .i64 ((F_s_GreatestSimulation mp0 mp1 mp2 np0 np1 np2).2))]) ⟨rfl, rfl, rfl, rfl, trivial⟩; clear hE126
      refine p_tn ?_
      refine c_seq ?_
      refine c_reg ?_
      refine q_step (v := .agg #[.int .i64 mp0, .slice mp1A mp1.length mp1C, .slice mp2A mp2.length mp2C]) hE127 (y_loadS Try.underlying35 rfl (by kernel_rfl) rfl (St.row (i := 6) hS112 rfl)) rfl rfl rfl ?_; intro a128 hE129; clear hE127
      refine l_step hE129 rfl (l_call (f := 24) (argv := [.agg #[.int .i64 mp0, .slice mp1A mp1.length mp1C, .slice mp2A mp2.length mp2C]]) hE129 (fun _ => cf_l_toModel _ _) rfl rfl (d_l_toModel mp0 mp1A mp1.length mp1C mp1 mp2A mp2.length mp2C mp2 w109 (St.rdR (i := 10) hS112 rfl) (St.rdR (i := 9) hS112 rfl) (by first | omega | (simp only [marked_len]; omega)) (by first | omega | (simp only [marked_len]; omega))) ?_)
      rintro _ w131 ⟨b136, c137, b138, c139, rfl, ho140, he135⟩ a132 hE133; clear hE129
      have hS134 := St.push2 hS112 he135 ho140; clear hS112
      refine l_step hE133 rfl (l_alloc (z := .agg #[.int .i64 0, .slice none 0 0, .slice none 0 0]) (cs := #[.int .i64 0, .slice none 0 0, .slice none 0 0]) hS134 hE133 (fun _ => by kernel_rfl) rfl rfl ?_)
      intro b142 w143 hS146 he147 a144 hE145; clear hS134 hE133
      refine l_step hE145 rfl (l_storeS (k := 0) (cs' := #[.int .i64 mp0, .slice b136 ((mp1).length) c137, .slice b138 ((mp2).length) c139]) hS146 hE145 (by kernel_rfl) rfl rfl (by kernel_rfl) rfl rfl ?_)
      intro w149 hS152 a150 hE151; clear hS146 hE145
      refine c_nil ?_
      have hE154 := hE151.sub (L' := [(2, .pointer (some ⟨b5, 0, none⟩)), (3, .pointer (some ⟨b11, 0, none⟩)), (6, .slice b114 (((F_s_GreatestSimulation mp0 mp1 mp2 np0 np1 np2).1).length) c115), (7, .int .i64 ((F_s_GreatestSimulation mp0 mp1 mp2 np0 np1 np2).2)), (8, .pointer (some ⟨b142, 0, none⟩))]) ⟨rfl, rfl, rfl, rfl, rfl, trivial⟩; clear hE151
      refine p_tn ?_
      refine c_seq ?_
      refine c_reg ?_
      refine q_step (v := .agg #[.int .i64 np0, .slice np1A np1.length np1C, .slice np2A np2.length np2C]) hE154 (y_loadS Try.underlying35 rfl (by kernel_rfl) rfl (St.row (i := 8) hS152 rfl)) rfl rfl rfl ?_; intro a155 hE156; clear hE154
      refine l_step hE156 rfl (l_call (f := 24) (argv := [.agg #[.int .i64 np0, .slice np1A np1.length np1C, .slice np2A np2.length np2C]]) hE156 (fun _ => cf_l_toModel _ _) rfl rfl (d_l_toModel np0 np1A np1.length np1C np1 np2A np2.length np2C np2 w149 (St.rdR (i := 11) hS152 rfl) (St.rdR (i := 10) hS152 rfl) (by first | omega | (simp only [marked_len]; omega)) (by first | omega | (simp only [marked_len]; omega))) ?_)
      rintro _ w158 ⟨b163, c164, b165, c166, rfl, ho167, he162⟩ a159 hE160; clear hE156
      have hS161 := St.push2 hS152 he162 ho167; clear hS152
      refine l_step hE160 rfl (l_alloc (z := .agg #[.int .i64 0, .slice none 0 0, .slice none 0 0]) (cs := #[.int .i64 0, .slice none 0 0, .slice none 0 0]) hS161 hE160 (fun _ => by kernel_rfl) rfl rfl ?_)
      intro b169 w170 hS173 he174 a171 hE172; clear hS161 hE160
      refine l_step hE172 rfl (l_storeS (k := 0) (cs' := #[.int .i64 np0, .slice b163 ((np1).length) c164, .slice b165 ((np2).length) c166]) hS173 hE172 (by kernel_rfl) rfl rfl (by kernel_rfl) rfl rfl ?_)
      intro w176 hS179 a177 hE178; clear hS173 hE172
      refine c_nil ?_
      have hE181 := hE178.sub (L' := [(2, .pointer (some ⟨b5, 0, none⟩)), (3, .pointer (some ⟨b11, 0, none⟩)), (6, .slice b114 (((F_s_GreatestSimulation mp0 mp1 mp2 np0 np1 np2).1).length) c115), (7, .int .i64 ((F_s_GreatestSimulation mp0 mp1 mp2 np0 np1 np2).2)), (8, .pointer (some ⟨b142, 0, none⟩)), (9, .pointer (some ⟨b169, 0, none⟩))]) ⟨rfl, rfl, rfl, rfl, rfl, rfl, trivial⟩; clear hE178
      refine p_tn ?_
      refine c_seq ?_
      refine c_reg ?_
      refine q_step (v := .agg #[.int .i64 mp0, .slice b136 ((mp1).length) c137, .slice b138 ((mp2).length) c139]) hE181 (y_loadS Try.underlying38 rfl (by kernel_rfl) rfl (St.row (i := 3) hS179 rfl)) rfl rfl rfl ?_; intro a182 hE183; clear hE181
      refine q_step (v := .agg #[.int .i64 np0, .slice b163 ((np1).length) c164, .slice b165 ((np2).length) c166]) hE183 (y_loadS Try.underlying38 rfl (by kernel_rfl) rfl (St.row (i := 0) hS179 rfl)) rfl rfl rfl ?_; intro a184 hE185; clear hE183
      refine l_step hE185 rfl (l_call (f := 51) (argv := [.agg #[.int .i64 mp0, .slice b136 ((mp1).length) c137, .slice b138 ((mp2).length) c139], .agg #[.int .i64 np0, .slice b163 ((np1).length) c164, .slice b165 ((np2).length) c166]]) hE185 (fun _ => cf_GreatestSimulation _ _) rfl rfl (c_GreatestSimulation mp0 b136 ((mp1).length) c137 mp1 b138 ((mp2).length) c139 mp2 np0 b163 ((np1).length) c164 np1 b165 ((np2).length) c166 np2 w176 (St.rdO (i := 4) hS179 rfl) (St.rdO (i := 5) hS179 rfl) (St.rdO (i := 1) hS179 rfl) (St.rdO (i := 2) hS179 rfl)) ?_)
      rintro _ w187 ⟨b192, c193, rfl, ho194, he191⟩ a188 hE189; clear hE185
      have hf195 := GreatestSimulation_len mp0 mp1 mp2 np0 np1 np2
      have hS190 := St.own hS179 he191 ho194; clear hS179
      refine q_step (v := .tuple #[.slice b192 (((F_GreatestSimulation mp0 mp1 mp2 np0 np1 np2).1).length) c193, .int .i64 ((F_GreatestSimulation mp0 mp1 mp2 np0 np1 np2).2)]) hE189 (y_move rfl) rfl rfl rfl ?_; intro a196 hE197; clear hE189
      refine q_step (v := .slice b192 (((F_GreatestSimulation mp0 mp1 mp2 np0 np1 np2).1).length) c193) hE197 (y_extract rfl rfl) rfl rfl rfl ?_; intro a198 hE199; clear hE197
      refine q_step (v := .int .i64 ((F_GreatestSimulation mp0 mp1 mp2 np0 np1 np2).2)) hE199 (y_extract rfl rfl) rfl rfl rfl ?_; intro a200 hE201; clear hE199
      refine q_step (v := .slice b192 (((F_GreatestSimulation mp0 mp1 mp2 np0 np1 np2).1).length) c193) hE201 (y_assign rfl) rfl rfl rfl ?_; intro a202 hE203; clear hE201
      refine q_step (v := .int .i64 ((F_GreatestSimulation mp0 mp1 mp2 np0 np1 np2).2)) hE203 (y_assign rfl) rfl rfl rfl ?_; intro a204 hE205; clear hE203
      refine c_nil ?_
      have hE206 := hE205.sub (L' := [(2, .pointer (some ⟨b5, 0, none⟩)), (3, .pointer (some ⟨b11, 0, none⟩)), (6, .slice b114 (((F_s_GreatestSimulation mp0 mp1 mp2 np0 np1 np2).1).length) c115), (7, .int .i64 ((F_s_GreatestSimulation mp0 mp1 mp2 np0 np1 np2).2)), (8, .pointer (some ⟨b142, 0, none⟩)), (9, .pointer (some ⟨b169, 0, none⟩)), (10, .slice b192 (((F_GreatestSimulation mp0 mp1 mp2 np0 np1 np2).1).length) c193), (11, .int .i64 ((F_GreatestSimulation mp0 mp1 mp2 np0 np1 np2).2))]) ⟨rfl, rfl, rfl, rfl, rfl, rfl, rfl, rfl, trivial⟩; clear hE205
      refine p_tn ?_
      refine c_seq ?_
      refine c_cut (fun a' w' => E a' 119 [(2, .pointer (some ⟨b5, 0, none⟩)), (3, .pointer (some ⟨b11, 0, none⟩)), (6, .slice b114 (((F_s_GreatestSimulation mp0 mp1 mp2 np0 np1 np2).1).length) c115), (7, .int .i64 ((F_s_GreatestSimulation mp0 mp1 mp2 np0 np1 np2).2)), (8, .pointer (some ⟨b142, 0, none⟩)), (9, .pointer (some ⟨b169, 0, none⟩)), (10, .slice b192 (((F_GreatestSimulation mp0 mp1 mp2 np0 np1 np2).1).length) c193), (11, .int .i64 ((F_GreatestSimulation mp0 mp1 mp2 np0 np1 np2).2)), (53, .bool ((!(decide (((F_GreatestSimulation mp0 mp1 mp2 np0 np1 np2).1) = ((F_s_GreatestSimulation mp0 mp1 mp2 np0 np1 np2).1)))) || (!decide (((F_GreatestSimulation mp0 mp1 mp2 np0 np1 np2).2) = ((F_s_GreatestSimulation mp0 mp1 mp2 np0 np1 np2).2)))))] ∧ St w w' [.own 2 1 b192 (((F_GreatestSimulation mp0 mp1 mp2 np0 np1 np2).1).length) c193 ((F_GreatestSimulation mp0 mp1 mp2 np0 np1 np2).1), .own 2 1 b163 ((np1).length) c164 np1, .own 2 1 b165 ((np2).length) c166 np2, .blk b169 #[.int .i64 np0, .slice b163 ((np1).length) c164, .slice b165 ((np2).length) c166] 38, .own 2 1 b136 ((mp1).length) c137 mp1, .own 2 1 b138 ((mp2).length) c139 mp2, .blk b142 #[.int .i64 mp0, .slice b136 ((mp1).length) c137, .slice b138 ((mp2).length) c139] 38, .own 2 1 b114 (((F_s_GreatestSimulation mp0 mp1 mp2 np0 np1 np2).1).length) c115 ((F_s_GreatestSimulation mp0 mp1 mp2 np0 np1 np2).1), .own 2 1 b102 ((np1).length) c103 np1, .own 2 1 b104 ((np2).length) c105 np2, .own 2 1 b90 ((mp1).length) c91 mp1, .own 2 1 b92 ((mp2).length) c93 mp2, .rd 1 np1A np1.length np1C np1, .rd 1 np2A np2.length np2C np2, .blk b11 #[.int .i64 np0, .slice np1A np1.length np1C, .slice np2A np2.length np2C] 35, .rd 1 mp1A mp1.length mp1C mp1, .rd 1 mp2A mp2.length mp2C mp2, .blk b5 #[.int .i64 mp0, .slice mp1A mp1.length mp1C, .slice mp2A mp2.length mp2C] 35]) ?_ ?_
      ·
        refine c_reg ?_
        refine q_step (v := .slice b192 (((F_GreatestSimulation mp0 mp1 mp2 np0 np1 np2).1).length) c193) hE206 (y_move rfl) rfl rfl rfl ?_; intro a207 hE208; clear hE206
        refine q_step (v := .slice b114 (((F_s_GreatestSimulation mp0 mp1 mp2 np0 np1 np2).1).length) c115) hE208 (y_move rfl) rfl rfl rfl ?_; intro a209 hE210; clear hE208
        refine l_step hE210 rfl (l_call (f := 21) (argv := [.slice b192 (((F_GreatestSimulation mp0 mp1 mp2 np0 np1 np2).1).length) c193, .slice b114 (((F_s_GreatestSimulation mp0 mp1 mp2 np0 np1 np2).1).length) c115]) hE210 (fun _ => cf_l_eqInt64S _ _) rfl rfl (d_l_eqInt64S b192 (((F_GreatestSimulation mp0 mp1 mp2 np0 np1 np2).1).length) c193 ((F_GreatestSimulation mp0 mp1 mp2 np0 np1 np2).1) b114 (((F_s_GreatestSimulation mp0 mp1 mp2 np0 np1 np2).1).length) c115 ((F_s_GreatestSimulation mp0 mp1 mp2 np0 np1 np2).1) w187 (St.rdO (i := 0) hS190 rfl) (St.rdO (i := 7) hS190 rfl)) ?_)
        rintro _ w212 ⟨rfl, he216⟩ a213 hE214; clear hE210
        have hS215 := St.go hS190 he216; clear hS190
        refine q_step (v := .bool (!(decide (((F_GreatestSimulation mp0 mp1 mp2 np0 np1 np2).1) = ((F_s_GreatestSimulation mp0 mp1 mp2 np0 np1 np2).1))))) hE214 (y_not rfl) rfl rfl rfl ?_; intro a217 hE218; clear hE214
        refine q_step (v := .bool (!(decide (((F_GreatestSimulation mp0 mp1 mp2 np0 np1 np2).1) = ((F_s_GreatestSimulation mp0 mp1 mp2 np0 np1 np2).1))))) hE218 (y_move rfl) rfl rfl rfl ?_; intro a219 hE220; clear hE218
        rcases Bool.eq_false_or_eq_true (!(decide (((F_GreatestSimulation mp0 mp1 mp2 np0 np1 np2).1) = ((F_s_GreatestSimulation mp0 mp1 mp2 np0 np1 np2).1)))) with hb221 | hb221
        ·
          have hE222 := hE220; rw [hb221] at hE222; clear hE220
          have ht223 := bn_t hb221
          have hp224 := of_decide_eq_false ht223
          refine q_skip hE222 rfl rfl rfl ?_; intro a225 hE226; clear hE222
          refine q_skip hE226 rfl rfl rfl ?_; intro a227 hE228; clear hE226
          refine q_skip hE228 rfl rfl rfl ?_; intro a229 hE230; clear hE228
          refine q_step (v := .bool true) hE230 (y_pick (b := true) rfl rfl) rfl rfl rfl ?_; intro a231 hE232; clear hE230
          refine c_nil ?_
          have hE233 := hE232.sub (L' := [(2, .pointer (some ⟨b5, 0, none⟩)), (3, .pointer (some ⟨b11, 0, none⟩)), (6, .slice b114 (((F_s_GreatestSimulation mp0 mp1 mp2 np0 np1 np2).1).length) c115), (7, .int .i64 ((F_s_GreatestSimulation mp0 mp1 mp2 np0 np1 np2).2)), (8, .pointer (some ⟨b142, 0, none⟩)), (9, .pointer (some ⟨b169, 0, none⟩)), (10, .slice b192 (((F_GreatestSimulation mp0 mp1 mp2 np0 np1 np2).1).length) c193), (11, .int .i64 ((F_GreatestSimulation mp0 mp1 mp2 np0 np1 np2).2)), (53, .bool true)]) ⟨rfl, rfl, rfl, rfl, rfl, rfl, rfl, rfl, rfl, trivial⟩; clear hE232
          refine p_tn ?_
          have hE234 := hE233.sub (L' := [(2, .pointer (some ⟨b5, 0, none⟩)), (3, .pointer (some ⟨b11, 0, none⟩)), (6, .slice b114 (((F_s_GreatestSimulation mp0 mp1 mp2 np0 np1 np2).1).length) c115), (7, .int .i64 ((F_s_GreatestSimulation mp0 mp1 mp2 np0 np1 np2).2)), (8, .pointer (some ⟨b142, 0, none⟩)), (9, .pointer (some ⟨b169, 0, none⟩)), (10, .slice b192 (((F_GreatestSimulation mp0 mp1 mp2 np0 np1 np2).1).length) c193), (11, .int .i64 ((F_GreatestSimulation mp0 mp1 mp2 np0 np1 np2).2)), (53, .bool true)]) ⟨rfl, rfl, rfl, rfl, rfl, rfl, rfl, rfl, rfl, trivial⟩
          have hS235 := (St.pick (Γ' := [.own 2 1 b192 (((F_GreatestSimulation mp0 mp1 mp2 np0 np1 np2).1).length) c193 ((F_GreatestSimulation mp0 mp1 mp2 np0 np1 np2).1), .own 2 1 b163 ((np1).length) c164 np1, .own 2 1 b165 ((np2).length) c166 np2, .blk b169 #[.int .i64 np0, .slice b163 ((np1).length) c164, .slice b165 ((np2).length) c166] 38, .own 2 1 b136 ((mp1).length) c137 mp1, .own 2 1 b138 ((mp2).length) c139 mp2, .blk b142 #[.int .i64 mp0, .slice b136 ((mp1).length) c137, .slice b138 ((mp2).length) c139] 38, .own 2 1 b114 (((F_s_GreatestSimulation mp0 mp1 mp2 np0 np1 np2).1).length) c115 ((F_s_GreatestSimulation mp0 mp1 mp2 np0 np1 np2).1), .own 2 1 b102 ((np1).length) c103 np1, .own 2 1 b104 ((np2).length) c105 np2, .own 2 1 b90 ((mp1).length) c91 mp1, .own 2 1 b92 ((mp2).length) c93 mp2, .rd 1 np1A np1.length np1C np1, .rd 1 np2A np2.length np2C np2, .blk b11 #[.int .i64 np0, .slice np1A np1.length np1C, .slice np2A np2.length np2C] 35, .rd 1 mp1A mp1.length mp1C mp1, .rd 1 mp2A mp2.length mp2C mp2, .blk b5 #[.int .i64 mp0, .slice mp1A mp1.length mp1C, .slice mp2A mp2.length mp2C] 35]) hS215 [0, 2, 3, 1, 5, 6, 4, 7, 8, 9, 10, 11, 15, 14, 12, 17, 16, 13] (by decide) rfl)
          exact ⟨(by rw [hb221]; exact hE234), hS235⟩
        ·
          have hE236 := hE220; rw [hb221] at hE236; clear hE220
          have ht237 := bn_f hb221
          have hp238 := of_decide_eq_true ht237
          refine q_step (v := .int .i64 ((F_GreatestSimulation mp0 mp1 mp2 np0 np1 np2).2)) hE236 (y_move rfl) rfl rfl rfl ?_; intro a239 hE240; clear hE236
          refine q_step (v := .int .i64 ((F_s_GreatestSimulation mp0 mp1 mp2 np0 np1 np2).2)) hE240 (y_move rfl) rfl rfl rfl ?_; intro a241 hE242; clear hE240
          refine q_step (v := .bool (!decide (((F_GreatestSimulation mp0 mp1 mp2 np0 np1 np2).2) = ((F_s_GreatestSimulation mp0 mp1 mp2 np0 np1 np2).2)))) hE242 (y_neq rfl rfl) rfl rfl rfl ?_; intro a243 hE244; clear hE242
          refine q_step (v := .bool (!decide (((F_GreatestSimulation mp0 mp1 mp2 np0 np1 np2).2) = ((F_s_GreatestSimulation mp0 mp1 mp2 np0 np1 np2).2)))) hE244 (y_pick (b := false) rfl rfl) rfl rfl rfl ?_; intro a245 hE246; clear hE244
          refine c_nil ?_
          have hE247 := hE246.sub (L' := [(2, .pointer (some ⟨b5, 0, none⟩)), (3, .pointer (some ⟨b11, 0, none⟩)), (6, .slice b114 (((F_s_GreatestSimulation mp0 mp1 mp2 np0 np1 np2).1).length) c115), (7, .int .i64 ((F_s_GreatestSimulation mp0 mp1 mp2 np0 np1 np2).2)), (8, .pointer (some ⟨b142, 0, none⟩)), (9, .pointer (some ⟨b169, 0, none⟩)), (10, .slice b192 (((F_GreatestSimulation mp0 mp1 mp2 np0 np1 np2).1).length) c193), (11, .int .i64 ((F_GreatestSimulation mp0 mp1 mp2 np0 np1 np2).2)), (53, .bool (!decide (((F_GreatestSimulation mp0 mp1 mp2 np0 np1 np2).2) = ((F_s_GreatestSimulation mp0 mp1 mp2 np0 np1 np2).2))))]) ⟨rfl, rfl, rfl, rfl, rfl, rfl, rfl, rfl, rfl, trivial⟩; clear hE246
          refine p_tn ?_
          have hE248 := hE247.sub (L' := [(2, .pointer (some ⟨b5, 0, none⟩)), (3, .pointer (some ⟨b11, 0, none⟩)), (6, .slice b114 (((F_s_GreatestSimulation mp0 mp1 mp2 np0 np1 np2).1).length) c115), (7, .int .i64 ((F_s_GreatestSimulation mp0 mp1 mp2 np0 np1 np2).2)), (8, .pointer (some ⟨b142, 0, none⟩)), (9, .pointer (some ⟨b169, 0, none⟩)), (10, .slice b192 (((F_GreatestSimulation mp0 mp1 mp2 np0 np1 np2).1).length) c193), (11, .int .i64 ((F_GreatestSimulation mp0 mp1 mp2 np0 np1 np2).2)), (53, .bool (!decide (((F_GreatestSimulation mp0 mp1 mp2 np0 np1 np2).2) = ((F_s_GreatestSimulation mp0 mp1 mp2 np0 np1 np2).2))))]) ⟨rfl, rfl, rfl, rfl, rfl, rfl, rfl, rfl, rfl, trivial⟩
          have hS249 := (St.pick (Γ' := [.own 2 1 b192 (((F_GreatestSimulation mp0 mp1 mp2 np0 np1 np2).1).length) c193 ((F_GreatestSimulation mp0 mp1 mp2 np0 np1 np2).1), .own 2 1 b163 ((np1).length) c164 np1, .own 2 1 b165 ((np2).length) c166 np2, .blk b169 #[.int .i64 np0, .slice b163 ((np1).length) c164, .slice b165 ((np2).length) c166] 38, .own 2 1 b136 ((mp1).length) c137 mp1, .own 2 1 b138 ((mp2).length) c139 mp2, .blk b142 #[.int .i64 mp0, .slice b136 ((mp1).length) c137, .slice b138 ((mp2).length) c139] 38, .own 2 1 b114 (((F_s_GreatestSimulation mp0 mp1 mp2 np0 np1 np2).1).length) c115 ((F_s_GreatestSimulation mp0 mp1 mp2 np0 np1 np2).1), .own 2 1 b102 ((np1).length) c103 np1, .own 2 1 b104 ((np2).length) c105 np2, .own 2 1 b90 ((mp1).length) c91 mp1, .own 2 1 b92 ((mp2).length) c93 mp2, .rd 1 np1A np1.length np1C np1, .rd 1 np2A np2.length np2C np2, .blk b11 #[.int .i64 np0, .slice np1A np1.length np1C, .slice np2A np2.length np2C] 35, .rd 1 mp1A mp1.length mp1C mp1, .rd 1 mp2A mp2.length mp2C mp2, .blk b5 #[.int .i64 mp0, .slice mp1A mp1.length mp1C, .slice mp2A mp2.length mp2C] 35]) hS215 [0, 2, 3, 1, 5, 6, 4, 7, 8, 9, 10, 11, 15, 14, 12, 17, 16, 13] (by decide) rfl)
          exact ⟨(by rw [hb221]; exact hE248), hS249⟩
      ·
        rintro a250 w251 ⟨hE252, hS253⟩; clear hE206 hS190
        refine c_cond hE252 rfl (fun ht254 => ?_) (fun ht254 => ?_)
        ·
          have hE255 := hE252; rw [ht254] at hE255; clear hE252
          refine c_seq ?_
          refine c_reg ?_
          refine q_step (v := .bool false) hE255 (y_assign rfl) rfl rfl rfl ?_; intro a256 hE257; clear hE255
          refine c_nil ?_
          have hE258 := hE257.sub (L' := [(4, .bool false)]) ⟨rfl, trivial⟩; clear hE257
          refine p_tn ?_
          refine wp_ret ?_
          refine p_tr ?_
          have hF : F_l_FnExactGreatestSimulation mp0 mp1 mp2 np0 np1 np2 = false := by unfold F_l_FnExactGreatestSimulation; rw [ht254, ht68, ht41]; first | done | rfl
          refine c_ret1 hE258 rfl rfl ?_
          exact ⟨(by rw [hF]; first | done | rfl), hS253.ext⟩
        ·
          obtain ⟨ht259, ht260⟩ := bor_f ht254
          have ht261 := bn_f ht259
          have hp262 := of_decide_eq_true ht261
          have ht263 := bn_f ht260
          have hp264 := of_decide_eq_true ht263
          have hE265 := hE252; rw [ht254] at hE265; clear hE252
          refine wp_skip ?_
          refine p_tn ?_
          refine c_seq ?_
          refine c_seq ?_
          refine d_start (fun w' => w'.heap[b142]? = some (.cells #[.int .i64 mp0, .slice b136 ((mp1).length) c137, .slice b138 ((mp2).length) c139] 38 (0, 0)) ∧ w'.heap[b5]? = some (.cells #[.int .i64 mp0, .slice mp1A mp1.length mp1C, .slice mp2A mp2.length mp2C] 35 (0, 0)) ∧ True) [0, 1] 5 (by kernel_rfl) rfl ?_
          intro w266 he267; have hS268 := St.go hS253 he267; clear hS253
          refine d_take (v := .agg #[.int .i64 mp0, .slice b136 ((mp1).length) c137, .slice b138 ((mp2).length) c139]) 0 rfl hE265 ⟨(St.row (i := 6) hS268 rfl _ (Ext.refl _)), (St.row (i := 17) hS268 rfl _ (Ext.refl _)), trivial⟩ (y_loadS Try.underlying38 rfl (by kernel_rfl) rfl (fun _ h => h.1)) rfl rfl (by kernel_rfl) (by kernel_rfl) (by kernel_rfl) rfl rfl (fun _ _ _ h => h) ?_; intro a269 hE270; clear hE265
          refine d_take (v := .agg #[.int .i64 mp0, .slice mp1A mp1.length mp1C, .slice mp2A mp2.length mp2C]) 1 rfl hE270 ⟨(St.row (i := 6) hS268 rfl _ (Ext.refl _)), (St.row (i := 17) hS268 rfl _ (Ext.refl _)), trivial⟩ (y_loadS Try.underlying35 rfl (by kernel_rfl) rfl (fun _ h => h.2.1)) rfl rfl (by kernel_rfl) (by kernel_rfl) (by kernel_rfl) rfl rfl (fun _ _ _ h => h) ?_; intro a271 hE272; clear hE270
          refine d_only 2 (by kernel_rfl) rfl hE272 rfl (l_call (f := 24) (argv := [.agg #[.int .i64 mp0, .slice mp1A mp1.length mp1C, .slice mp2A mp2.length mp2C]]) hE272 (fun _ => cf_l_toModel _ _) rfl rfl (d_l_toModel mp0 mp1A mp1.length mp1C mp1 mp2A mp2.length mp2C mp2 w266 (St.rdR (i := 15) hS268 rfl) (St.rdR (i := 16) hS268 rfl) (by first | omega | (simp only [marked_len]; omega)) (by first | omega | (simp only [marked_len]; omega))) ?_)
          rintro _ w274 ⟨b279, c280, b281, c282, rfl, ho283, he278⟩ a275 hE276; clear hE272
          have hS277 := St.push2 hS268 he278 ho283; clear hS268
          refine ⟨fun _ _ => ⟨(St.row (i := 8) hS277 rfl _ (Ext.refl _)), (St.row (i := 19) hS277 rfl _ (Ext.refl _)), trivial⟩, ?_⟩
          refine d_only 3 (by kernel_rfl) rfl hE276 rfl (l_call (f := 26) (argv := [.agg #[.int .i64 mp0, .slice b136 ((mp1).length) c137, .slice b138 ((mp2).length) c139], .agg #[.int .i64 mp0, .slice b279 ((mp1).length) c280, .slice b281 ((mp2).length) c282]]) hE276 (fun _ => cf_l_eqModel _ _) rfl rfl (d_l_eqModel mp0 b136 ((mp1).length) c137 mp1 b138 ((mp2).length) c139 mp2 mp0 b279 ((mp1).length) c280 mp1 b281 ((mp2).length) c282 mp2 w274 (St.rdO (i := 6) hS277 rfl) (St.rdO (i := 7) hS277 rfl) (St.rdO (i := 0) hS277 rfl) (St.rdO (i := 1) hS277 rfl)) ?_)
          rintro _ w286 ⟨rfl, he290⟩ a287 hE288; clear hE276
          have hS289 := St.go hS277 he290; clear hS277
          refine ⟨fun _ _ => ⟨(St.row (i := 8) hS289 rfl _ (Ext.refl _)), (St.row (i := 19) hS289 rfl _ (Ext.refl _)), trivial⟩, ?_⟩
          refine d_pure (v := .bool (!(decide ((mp0, mp1, mp2) = (mp0, mp1, mp2))))) 4 rfl hE288 (y_not rfl) rfl (by kernel_rfl) (by kernel_rfl) (by kernel_rfl) rfl rfl (fun _ _ _ h => h) ?_; intro a291 hE292; clear hE288
          refine d_done (by kernel_rfl) ?_
          have hE293 := hE292.sub (L' := [(2, .pointer (some ⟨b5, 0, none⟩)), (3, .pointer (some ⟨b11, 0, none⟩)), (6, .slice b114 (((F_s_GreatestSimulation mp0 mp1 mp2 np0 np1 np2).1).length) c115), (7, .int .i64 ((F_s_GreatestSimulation mp0 mp1 mp2 np0 np1 np2).2)), (8, .pointer (some ⟨b142, 0, none⟩)), (9, .pointer (some ⟨b169, 0, none⟩)), (10, .slice b192 (((F_GreatestSimulation mp0 mp1 mp2 np0 np1 np2).1).length) c193), (11, .int .i64 ((F_GreatestSimulation mp0 mp1 mp2 np0 np1 np2).2)), (58, .bool (!(decide ((mp0, mp1, mp2) = (mp0, mp1, mp2)))))]) ⟨rfl, rfl, rfl, rfl, rfl, rfl, rfl, rfl, rfl, trivial⟩; clear hE292
          refine p_tn ?_
          refine c_cond hE293 rfl (fun ht294 => ?_) (fun ht294 => ?_)
          ·
            have ht295 := bn_t ht294
            have hp296 := of_decide_eq_false ht295
            have hE297 := hE293; rw [ht294] at hE297; clear hE293
            refine c_seq ?_
            refine c_reg ?_
            refine q_step (v := .bool false) hE297 (y_assign rfl) rfl rfl rfl ?_; intro a298 hE299; clear hE297
            refine c_nil ?_
            have hE300 := hE299.sub (L' := [(4, .bool false)]) ⟨rfl, trivial⟩; clear hE299
            refine p_tn ?_
            refine wp_ret ?_
            refine p_tr ?_
            have hF : F_l_FnExactGreatestSimulation mp0 mp1 mp2 np0 np1 np2 = false := by unfold F_l_FnExactGreatestSimulation; rw [ht294, ht254, ht68, ht41]; first | done | rfl
            refine c_ret1 hE300 rfl rfl ?_
            exact ⟨(by rw [hF]; first | done | rfl), hS289.ext⟩
          ·
            have ht301 := bn_f ht294
            have hp302 := of_decide_eq_true ht301
            have hE303 := hE293; rw [ht294] at hE303; clear hE293
            refine wp_skip ?_
            refine p_tn ?_
            refine c_seq ?_
            refine c_seq ?_
            refine d_start (fun w' => w'.heap[b169]? = some (.cells #[.int .i64 np0, .slice b163 ((np1).length) c164, .slice b165 ((np2).length) c166] 38 (0, 0)) ∧ w'.heap[b11]? = some (.cells #[.int .i64 np0, .slice np1A np1.length np1C, .slice np2A np2.length np2C] 35 (0, 0)) ∧ True) [0, 1] 5 (by kernel_rfl) rfl ?_
            intro w304 he305; have hS306 := St.go hS289 he305; clear hS289
            refine d_take (v := .agg #[.int .i64 np0, .slice b163 ((np1).length) c164, .slice b165 ((np2).length) c166]) 0 rfl hE303 ⟨(St.row (i := 5) hS306 rfl _ (Ext.refl _)), (St.row (i := 16) hS306 rfl _ (Ext.refl _)), trivial⟩ (y_loadS Try.underlying38 rfl (by kernel_rfl) rfl (fun _ h => h.1)) rfl rfl (by kernel_rfl) (by kernel_rfl) (by kernel_rfl) rfl rfl (fun _ _ _ h => h) ?_; intro a307 hE308; clear hE303
            refine d_take (v := .agg #[.int .i64 np0, .slice np1A np1.length np1C, .slice np2A np2.length np2C]) 1 rfl hE308 ⟨(St.row (i := 5) hS306 rfl _ (Ext.refl _)), (St.row (i := 16) hS306 rfl _ (Ext.refl _)), trivial⟩ (y_loadS Try.underlying35 rfl (by kernel_rfl) rfl (fun _ h => h.2.1)) rfl rfl (by kernel_rfl) (by kernel_rfl) (by kernel_rfl) rfl rfl (fun _ _ _ h => h) ?_; intro a309 hE310; clear hE308
            refine d_only 2 (by kernel_rfl) rfl hE310 rfl (l_call (f := 24) (argv := [.agg #[.int .i64 np0, .slice np1A np1.length np1C, .slice np2A np2.length np2C]]) hE310 (fun _ => cf_l_toModel _ _) rfl rfl (d_l_toModel np0 np1A np1.length np1C np1 np2A np2.length np2C np2 w304 (St.rdR (i := 14) hS306 rfl) (St.rdR (i := 15) hS306 rfl) (by first | omega | (simp only [marked_len]; omega)) (by first | omega | (simp only [marked_len]; omega))) ?_)
            rintro _ w312 ⟨b317, c318, b319, c320, rfl, ho321, he316⟩ a313 hE314; clear hE310
            have hS315 := St.push2 hS306 he316 ho321; clear hS306
            refine ⟨fun _ _ => ⟨(St.row (i := 7) hS315 rfl _ (Ext.refl _)), (St.row (i := 18) hS315 rfl _ (Ext.refl _)), trivial⟩, ?_⟩
            refine d_only 3 (by kernel_rfl) rfl hE314 rfl (l_call (f := 26) (argv := [.agg #[.int .i64 np0, .slice b163 ((np1).length) c164, .slice b165 ((np2).length) c166], .agg #[.int .i64 np0, .slice b317 ((np1).length) c318, .slice b319 ((np2).length) c320]]) hE314 (fun _ => cf_l_eqModel _ _) rfl rfl (d_l_eqModel np0 b163 ((np1).length) c164 np1 b165 ((np2).length) c166 np2 np0 b317 ((np1).length) c318 np1 b319 ((np2).length) c320 np2 w312 (St.rdO (i := 5) hS315 rfl) (St.rdO (i := 6) hS315 rfl) (St.rdO (i := 0) hS315 rfl) (St.rdO (i := 1) hS315 rfl)) ?_)
            rintro _ w324 ⟨rfl, he328⟩ a325 hE326; clear hE314
            have hS327 := St.go hS315 he328; clear hS315
            refine ⟨fun _ _ => ⟨(St.row (i := 7) hS327 rfl _ (Ext.refl _)), (St.row (i := 18) hS327 rfl _ (Ext.refl _)), trivial⟩, ?_⟩
            refine d_pure (v := .bool (!(decide ((np0, np1, np2) = (np0, np1, np2))))) 4 rfl hE326 (y_not rfl) rfl (by kernel_rfl) (by kernel_rfl) (by kernel_rfl) rfl rfl (fun _ _ _ h => h) ?_; intro a329 hE330; clear hE326
            refine d_done (by kernel_rfl) ?_
            have hE331 := hE330.sub (L' := [(2, .pointer (some ⟨b5, 0, none⟩)), (3, .pointer (some ⟨b11, 0, none⟩)), (6, .slice b114 (((F_s_GreatestSimulation mp0 mp1 mp2 np0 np1 np2).1).length) c115), (7, .int .i64 ((F_s_GreatestSimulation mp0 mp1 mp2 np0 np1 np2).2)), (8, .pointer (some ⟨b142, 0, none⟩)), (9, .pointer (some ⟨b169, 0, none⟩)), (10, .slice b192 (((F_GreatestSimulation mp0 mp1 mp2 np0 np1 np2).1).length) c193), (11, .int .i64 ((F_GreatestSimulation mp0 mp1 mp2 np0 np1 np2).2)), (63, .bool (!(decide ((np0, np1, np2) = (np0, np1, np2)))))]) ⟨rfl, rfl, rfl, rfl, rfl, rfl, rfl, rfl, rfl, trivial⟩; clear hE330
            refine p_tn ?_
            refine c_cond hE331 rfl (fun ht332 => ?_) (fun ht332 => ?_)
            ·
              have ht333 := bn_t ht332
              have hp334 := of_decide_eq_false ht333
              have hE335 := hE331; rw [ht332] at hE335; clear hE331
              refine c_seq ?_
              refine c_reg ?_
              refine q_step (v := .bool false) hE335 (y_assign rfl) rfl rfl rfl ?_; intro a336 hE337; clear hE335
              refine c_nil ?_
              have hE338 := hE337.sub (L' := [(4, .bool false)]) ⟨rfl, trivial⟩; clear hE337
              refine p_tn ?_
              refine wp_ret ?_
              refine p_tr ?_
              have hF : F_l_FnExactGreatestSimulation mp0 mp1 mp2 np0 np1 np2 = false := by unfold F_l_FnExactGreatestSimulation; rw [ht332, ht294, ht254, ht68, ht41]; first | done | rfl
              refine c_ret1 hE338 rfl rfl ?_
              exact ⟨(by rw [hF]; first | done | rfl), hS327.ext⟩
            ·
              have ht339 := bn_f ht332
              have hp340 := of_decide_eq_true ht339
              have hE341 := hE331; rw [ht332] at hE341; clear hE331
              refine wp_skip ?_
              refine p_tn ?_
              refine c_seq ?_
              refine c_reg ?_
              refine q_step (v := .int .i64 1) hE341 (y_assign rfl) rfl rfl rfl ?_; intro a342 hE343; clear hE341
              refine c_nil ?_
              have hE344 := hE343.sub (L' := [(2, .pointer (some ⟨b5, 0, none⟩)), (3, .pointer (some ⟨b11, 0, none⟩)), (6, .slice b114 (((F_s_GreatestSimulation mp0 mp1 mp2 np0 np1 np2).1).length) c115), (7, .int .i64 ((F_s_GreatestSimulation mp0 mp1 mp2 np0 np1 np2).2)), (8, .pointer (some ⟨b142, 0, none⟩)), (9, .pointer (some ⟨b169, 0, none⟩)), (10, .slice b192 (((F_GreatestSimulation mp0 mp1 mp2 np0 np1 np2).1).length) c193), (11, .int .i64 ((F_GreatestSimulation mp0 mp1 mp2 np0 np1 np2).2)), (12, .int .i64 1)]) ⟨rfl, rfl, rfl, rfl, rfl, rfl, rfl, rfl, rfl, trivial⟩; clear hE343
              refine p_tn ?_
              refine c_seq ?_
              refine c_reg ?_
              refine q_step (v := .agg #[.int .i64 mp0, .slice b136 ((mp1).length) c137, .slice b138 ((mp2).length) c139]) hE344 (y_loadS Try.underlying38 rfl (by kernel_rfl) rfl (St.row (i := 10) hS327 rfl)) rfl rfl rfl ?_; intro a345 hE346; clear hE344
              refine q_step (v := .int .i64 1) hE346 (y_move rfl) rfl rfl rfl ?_; intro a347 hE348; clear hE346
              have hS355 := (St.pick (Γ' := [.own 2 1 b138 ((mp2).length) c139 mp2, .own 2 1 b136 ((mp1).length) c137 mp1, .own 2 1 b317 ((np1).length) c318 np1, .own 2 1 b319 ((np2).length) c320 np2, .own 2 1 b279 ((mp1).length) c280 mp1, .own 2 1 b281 ((mp2).length) c282 mp2, .own 2 1 b192 (((F_GreatestSimulation mp0 mp1 mp2 np0 np1 np2).1).length) c193 ((F_GreatestSimulation mp0 mp1 mp2 np0 np1 np2).1), .own 2 1 b163 ((np1).length) c164 np1, .own 2 1 b165 ((np2).length) c166 np2, .blk b169 #[.int .i64 np0, .slice b163 ((np1).length) c164, .slice b165 ((np2).length) c166] 38, .blk b142 #[.int .i64 mp0, .slice b136 ((mp1).length) c137, .slice b138 ((mp2).length) c139] 38, .own 2 1 b114 (((F_s_GreatestSimulation mp0 mp1 mp2 np0 np1 np2).1).length) c115 ((F_s_GreatestSimulation mp0 mp1 mp2 np0 np1 np2).1), .own 2 1 b102 ((np1).length) c103 np1, .own 2 1 b104 ((np2).length) c105 np2, .own 2 1 b90 ((mp1).length) c91 mp1, .own 2 1 b92 ((mp2).length) c93 mp2, .rd 1 np1A np1.length np1C np1, .rd 1 np2A np2.length np2C np2, .blk b11 #[.int .i64 np0, .slice np1A np1.length np1C, .slice np2A np2.length np2C] 35, .rd 1 mp1A mp1.length mp1C mp1, .rd 1 mp2A mp2.length mp2C mp2, .blk b5 #[.int .i64 mp0, .slice mp1A mp1.length mp1C, .slice mp2A mp2.length mp2C] 35]) hS327 [9, 8, 0, 1, 2, 3, 4, 5, 6, 7, 10, 11, 12, 13, 14, 15, 16, 17, 18, 19, 20, 21] (by decide) rfl); clear hS327
              refine l_step hE348 rfl (l_call (f := 27) (argv := [.agg #[.int .i64 mp0, .slice b136 ((mp1).length) c137, .slice b138 ((mp2).length) c139], .int .i64 1]) hE348 (fun _ => cf_l_markModel _ _) rfl rfl (d_l_markModel mp0 b136 ((mp1).length) c137 mp1 b138 ((mp2).length) c139 mp2 1 w324 w [.own 2 1 b317 ((np1).length) c318 np1, .own 2 1 b319 ((np2).length) c320 np2, .own 2 1 b279 ((mp1).length) c280 mp1, .own 2 1 b281 ((mp2).length) c282 mp2, .own 2 1 b192 (((F_GreatestSimulation mp0 mp1 mp2 np0 np1 np2).1).length) c193 ((F_GreatestSimulation mp0 mp1 mp2 np0 np1 np2).1), .own 2 1 b163 ((np1).length) c164 np1, .own 2 1 b165 ((np2).length) c166 np2, .blk b169 #[.int .i64 np0, .slice b163 ((np1).length) c164, .slice b165 ((np2).length) c166] 38, .blk b142 #[.int .i64 mp0, .slice b136 ((mp1).length) c137, .slice b138 ((mp2).length) c139] 38, .own 2 1 b114 (((F_s_GreatestSimulation mp0 mp1 mp2 np0 np1 np2).1).length) c115 ((F_s_GreatestSimulation mp0 mp1 mp2 np0 np1 np2).1), .own 2 1 b102 ((np1).length) c103 np1, .own 2 1 b104 ((np2).length) c105 np2, .own 2 1 b90 ((mp1).length) c91 mp1, .own 2 1 b92 ((mp2).length) c93 mp2, .rd 1 np1A np1.length np1C np1, .rd 1 np2A np2.length np2C np2, .blk b11 #[.int .i64 np0, .slice np1A np1.length np1C, .slice np2A np2.length np2C] 35, .rd 1 mp1A mp1.length mp1C mp1, .rd 1 mp2A mp2.length mp2C mp2, .blk b5 #[.int .i64 mp0, .slice mp1A mp1.length mp1C, .slice mp2A mp2.length mp2C] 35] hS355 (by first | omega | (simp only [marked_len]; omega)) (by first | omega | (simp only [marked_len]; omega)) (by first | omega | (simp only [marked_len]; omega)) (by first | omega | (simp only [marked_len]; omega))) ?_)
              rintro _ w350 ⟨rfl, hS353⟩ a351 hE352; clear hE348 hS355
              refine q_step (v := .int .i64 (1 + (mp1.length : Int) + (mp2.length : Int))) hE352 (y_assign rfl) rfl rfl rfl ?_; intro a356 hE357; clear hE352
              refine c_nil ?_
              have hE358 := hE357.sub (L' := [(2, .pointer (some ⟨b5, 0, none⟩)), (3, .pointer (some ⟨b11, 0, none⟩)), (6, .slice b114 (((F_s_GreatestSimulation mp0 mp1 mp2 np0 np1 np2).1).length) c115), (7, .int .i64 ((F_s_GreatestSimulation mp0 mp1 mp2 np0 np1 np2).2)), (9, .pointer (some ⟨b169, 0, none⟩)), (10, .slice b192 (((F_GreatestSimulation mp0 mp1 mp2 np0 np1 np2).1).length) c193), (11, .int .i64 ((F_GreatestSimulation mp0 mp1 mp2 np0 np1 np2).2)), (12, .int .i64 (1 + (mp1.length : Int) + (mp2.length : Int)))]) ⟨rfl, rfl, rfl, rfl, rfl, rfl, rfl, rfl, trivial⟩; clear hE357
              refine p_tn ?_
              refine c_seq ?_
              refine c_reg ?_
              refine q_step (v := .agg #[.int .i64 np0, .slice b163 ((np1).length) c164, .slice b165 ((np2).length) c166]) hE358 (y_loadS Try.underlying38 rfl (by kernel_rfl) rfl (St.row (i := 9) hS353 rfl)) rfl rfl rfl ?_; intro a359 hE360; clear hE358
              refine q_step (v := .int .i64 (1 + (mp1.length : Int) + (mp2.length : Int))) hE360 (y_move rfl) rfl rfl rfl ?_; intro a361 hE362; clear hE360
              have hS369 := (St.pick (Γ' := [.own 2 1 b165 ((np2).length) c166 np2, .own 2 1 b163 ((np1).length) c164 np1, .own 2 1 b138 ((mp2).length) c139 (marked mp2.length (1 + (mp1.length : Int))), .own 2 1 b136 ((mp1).length) c137 (marked mp1.length 1), .own 2 1 b317 ((np1).length) c318 np1, .own 2 1 b319 ((np2).length) c320 np2, .own 2 1 b279 ((mp1).length) c280 mp1, .own 2 1 b281 ((mp2).length) c282 mp2, .own 2 1 b192 (((F_GreatestSimulation mp0 mp1 mp2 np0 np1 np2).1).length) c193 ((F_GreatestSimulation mp0 mp1 mp2 np0 np1 np2).1), .blk b169 #[.int .i64 np0, .slice b163 ((np1).length) c164, .slice b165 ((np2).length) c166] 38, .blk b142 #[.int .i64 mp0, .slice b136 ((mp1).length) c137, .slice b138 ((mp2).length) c139] 38, .own 2 1 b114 (((F_s_GreatestSimulation mp0 mp1 mp2 np0 np1 np2).1).length) c115 ((F_s_GreatestSimulation mp0 mp1 mp2 np0 np1 np2).1), .own 2 1 b102 ((np1).length) c103 np1, .own 2 1 b104 ((np2).length) c105 np2, .own 2 1 b90 ((mp1).length) c91 mp1, .own 2 1 b92 ((mp2).length) c93 mp2, .rd 1 np1A np1.length np1C np1, .rd 1 np2A np2.length np2C np2, .blk b11 #[.int .i64 np0, .slice np1A np1.length np1C, .slice np2A np2.length np2C] 35, .rd 1 mp1A mp1.length mp1C mp1, .rd 1 mp2A mp2.length mp2C mp2, .blk b5 #[.int .i64 mp0, .slice mp1A mp1.length mp1C, .slice mp2A mp2.length mp2C] 35]) hS353 [8, 7, 0, 1, 2, 3, 4, 5, 6, 9, 10, 11, 12, 13, 14, 15, 16, 17, 18, 19, 20, 21] (by decide) rfl); clear hS353
              refine l_step hE362 rfl (l_call (f := 27) (argv := [.agg #[.int .i64 np0, .slice b163 ((np1).length) c164, .slice b165 ((np2).length) c166], .int .i64 (1 + (mp1.length : Int) + (mp2.length : Int))]) hE362 (fun _ => cf_l_markModel _ _) rfl rfl (d_l_markModel np0 b163 ((np1).length) c164 np1 b165 ((np2).length) c166 np2 (1 + (mp1.length : Int) + (mp2.length : Int)) w350 w [.own 2 1 b138 ((mp2).length) c139 (marked mp2.length (1 + (mp1.length : Int))), .own 2 1 b136 ((mp1).length) c137 (marked mp1.length 1), .own 2 1 b317 ((np1).length) c318 np1, .own 2 1 b319 ((np2).length) c320 np2, .own 2 1 b279 ((mp1).length) c280 mp1, .own 2 1 b281 ((mp2).length) c282 mp2, .own 2 1 b192 (((F_GreatestSimulation mp0 mp1 mp2 np0 np1 np2).1).length) c193 ((F_GreatestSimulation mp0 mp1 mp2 np0 np1 np2).1), .blk b169 #[.int .i64 np0, .slice b163 ((np1).length) c164, .slice b165 ((np2).length) c166] 38, .blk b142 #[.int .i64 mp0, .slice b136 ((mp1).length) c137, .slice b138 ((mp2).length) c139] 38, .own 2 1 b114 (((F_s_GreatestSimulation mp0 mp1 mp2 np0 np1 np2).1).length) c115 ((F_s_GreatestSimulation mp0 mp1 mp2 np0 np1 np2).1), .own 2 1 b102 ((np1).length) c103 np1, .own 2 1 b104 ((np2).length) c105 np2, .own 2 1 b90 ((mp1).length) c91 mp1, .own 2 1 b92 ((mp2).length) c93 mp2, .rd 1 np1A np1.length np1C np1, .rd 1 np2A np2.length np2C np2, .blk b11 #[.int .i64 np0, .slice np1A np1.length np1C, .slice np2A np2.length np2C] 35, .rd 1 mp1A mp1.length mp1C mp1, .rd 1 mp2A mp2.length mp2C mp2, .blk b5 #[.int .i64 mp0, .slice mp1A mp1.length mp1C, .slice mp2A mp2.length mp2C] 35] hS369 (by first | omega | (simp only [marked_len]; omega)) (by first | omega | (simp only [marked_len]; omega)) (by first | omega | (simp only [marked_len]; omega)) (by first | omega | (simp only [marked_len]; omega))) ?_)
              rintro _ w364 ⟨rfl, hS367⟩ a365 hE366; clear hE362 hS369
              refine q_step (v := .int .i64 ((1 + (mp1.length : Int) + (mp2.length : Int)) + (np1.length : Int) + (np2.length : Int))) hE366 (y_assign rfl) rfl rfl rfl ?_; intro a370 hE371; clear hE366
              refine c_nil ?_
              have hE372 := hE371.sub (L' := [(2, .pointer (some ⟨b5, 0, none⟩)), (3, .pointer (some ⟨b11, 0, none⟩)), (6, .slice b114 (((F_s_GreatestSimulation mp0 mp1 mp2 np0 np1 np2).1).length) c115), (7, .int .i64 ((F_s_GreatestSimulation mp0 mp1 mp2 np0 np1 np2).2)), (10, .slice b192 (((F_GreatestSimulation mp0 mp1 mp2 np0 np1 np2).1).length) c193), (11, .int .i64 ((F_GreatestSimulation mp0 mp1 mp2 np0 np1 np2).2)), (12, .int .i64 ((1 + (mp1.length : Int) + (mp2.length : Int)) + (np1.length : Int) + (np2.length : Int)))]) ⟨rfl, rfl, rfl, rfl, rfl, rfl, rfl, trivial⟩; clear hE371
              refine p_tn ?_
              refine c_seq ?_
              refine c_cut (fun a' w' => E a' 119 [(2, .pointer (some ⟨b5, 0, none⟩)), (3, .pointer (some ⟨b11, 0, none⟩)), (6, .slice b114 (((F_s_GreatestSimulation mp0 mp1 mp2 np0 np1 np2).1).length) c115), (7, .int .i64 ((F_s_GreatestSimulation mp0 mp1 mp2 np0 np1 np2).2)), (10, .slice b192 (((F_GreatestSimulation mp0 mp1 mp2 np0 np1 np2).1).length) c193), (82, .bool ((decide (((1 + (mp1.length : Int) + (mp2.length : Int)) + (np1.length : Int) + (np2.length : Int)) < 0)) || ((!(decide (((F_GreatestSimulation mp0 mp1 mp2 np0 np1 np2).1) = ((F_s_GreatestSimulation mp0 mp1 mp2 np0 np1 np2).1)))) || (!decide (((F_GreatestSimulation mp0 mp1 mp2 np0 np1 np2).2) = ((F_s_GreatestSimulation mp0 mp1 mp2 np0 np1 np2).2))))))] ∧ St w w' [.own 2 1 b165 ((np2).length) c166 (marked np2.length ((1 + (mp1.length : Int) + (mp2.length : Int)) + (np1.length : Int))), .own 2 1 b163 ((np1).length) c164 (marked np1.length (1 + (mp1.length : Int) + (mp2.length : Int))), .own 2 1 b138 ((mp2).length) c139 (marked mp2.length (1 + (mp1.length : Int))), .own 2 1 b136 ((mp1).length) c137 (marked mp1.length 1), .own 2 1 b317 ((np1).length) c318 np1, .own 2 1 b319 ((np2).length) c320 np2, .own 2 1 b279 ((mp1).length) c280 mp1, .own 2 1 b281 ((mp2).length) c282 mp2, .own 2 1 b192 (((F_GreatestSimulation mp0 mp1 mp2 np0 np1 np2).1).length) c193 ((F_GreatestSimulation mp0 mp1 mp2 np0 np1 np2).1), .blk b169 #[.int .i64 np0, .slice b163 ((np1).length) c164, .slice b165 ((np2).length) c166] 38, .blk b142 #[.int .i64 mp0, .slice b136 ((mp1).length) c137, .slice b138 ((mp2).length) c139] 38, .own 2 1 b114 (((F_s_GreatestSimulation mp0 mp1 mp2 np0 np1 np2).1).length) c115 ((F_s_GreatestSimulation mp0 mp1 mp2 np0 np1 np2).1), .own 2 1 b102 ((np1).length) c103 np1, .own 2 1 b104 ((np2).length) c105 np2, .own 2 1 b90 ((mp1).length) c91 mp1, .own 2 1 b92 ((mp2).length) c93 mp2, .rd 1 np1A np1.length np1C np1, .rd 1 np2A np2.length np2C np2, .blk b11 #[.int .i64 np0, .slice np1A np1.length np1C, .slice np2A np2.length np2C] 35, .rd 1 mp1A mp1.length mp1C mp1, .rd 1 mp2A mp2.length mp2C mp2, .blk b5 #[.int .i64 mp0, .slice mp1A mp1.length mp1C, .slice mp2A mp2.length mp2C] 35]) ?_ ?_
              ·
                refine c_reg ?_
                refine q_step (v := .int .i64 ((1 + (mp1.length : Int) + (mp2.length : Int)) + (np1.length : Int) + (np2.length : Int))) hE372 (y_move rfl) rfl rfl rfl ?_; intro a373 hE374; clear hE372
                refine q_step (v := .bool (decide (((1 + (mp1.length : Int) + (mp2.length : Int)) + (np1.length : Int) + (np2.length : Int)) < 0))) hE374 (y_lss rfl rfl) rfl rfl rfl ?_; intro a375 hE376; clear hE374
                refine q_step (v := .bool (decide (((1 + (mp1.length : Int) + (mp2.length : Int)) + (np1.length : Int) + (np2.length : Int)) < 0))) hE376 (y_move rfl) rfl rfl rfl ?_; intro a377 hE378; clear hE376
                rcases Bool.eq_false_or_eq_true (decide (((1 + (mp1.length : Int) + (mp2.length : Int)) + (np1.length : Int) + (np2.length : Int)) < 0)) with hb379 | hb379
                ·
                  have hE380 := hE378; rw [hb379] at hE380; clear hE378
                  have hp381 := of_decide_eq_true hb379
                  refine q_skip hE380 rfl rfl rfl ?_; intro a382 hE383; clear hE380
                  refine q_skip hE383 rfl rfl rfl ?_; intro a384 hE385; clear hE383
                  refine q_skip hE385 rfl rfl rfl ?_; intro a386 hE387; clear hE385
                  refine q_skip hE387 rfl rfl rfl ?_; intro a388 hE389; clear hE387
                  refine q_step (v := .bool true) hE389 (y_pick (b := true) rfl rfl) rfl rfl rfl ?_; intro a390 hE391; clear hE389
                  refine q_step (v := .bool true) hE391 (y_move rfl) rfl rfl rfl ?_; intro a392 hE393; clear hE391
                  refine q_skip hE393 rfl rfl rfl ?_; intro a394 hE395; clear hE393
                  refine q_skip hE395 rfl rfl rfl ?_; intro a396 hE397; clear hE395
                  refine q_skip hE397 rfl rfl rfl ?_; intro a398 hE399; clear hE397
                  refine q_step (v := .bool true) hE399 (y_pick (b := true) rfl rfl) rfl rfl rfl ?_; intro a400 hE401; clear hE399
                  refine c_nil ?_
                  have hE402 := hE401.sub (L' := [(2, .pointer (some ⟨b5, 0, none⟩)), (3, .pointer (some ⟨b11, 0, none⟩)), (6, .slice b114 (((F_s_GreatestSimulation mp0 mp1 mp2 np0 np1 np2).1).length) c115), (7, .int .i64 ((F_s_GreatestSimulation mp0 mp1 mp2 np0 np1 np2).2)), (10, .slice b192 (((F_GreatestSimulation mp0 mp1 mp2 np0 np1 np2).1).length) c193), (82, .bool true)]) ⟨rfl, rfl, rfl, rfl, rfl, rfl, trivial⟩; clear hE401
                  refine p_tn ?_
                  have hE403 := hE402.sub (L' := [(2, .pointer (some ⟨b5, 0, none⟩)), (3, .pointer (some ⟨b11, 0, none⟩)), (6, .slice b114 (((F_s_GreatestSimulation mp0 mp1 mp2 np0 np1 np2).1).length) c115), (7, .int .i64 ((F_s_GreatestSimulation mp0 mp1 mp2 np0 np1 np2).2)), (10, .slice b192 (((F_GreatestSimulation mp0 mp1 mp2 np0 np1 np2).1).length) c193), (82, .bool true)]) ⟨rfl, rfl, rfl, rfl, rfl, rfl, trivial⟩
                  have hS404 := (St.pick (Γ' := [.own 2 1 b165 ((np2).length) c166 (marked np2.length ((1 + (mp1.length : Int) + (mp2.length : Int)) + (np1.length : Int))), .own 2 1 b163 ((np1).length) c164 (marked np1.length (1 + (mp1.length : Int) + (mp2.length : Int))), .own 2 1 b138 ((mp2).length) c139 (marked mp2.length (1 + (mp1.length : Int))), .own 2 1 b136 ((mp1).length) c137 (marked mp1.length 1), .own 2 1 b317 ((np1).length) c318 np1, .own 2 1 b319 ((np2).length) c320 np2, .own 2 1 b279 ((mp1).length) c280 mp1, .own 2 1 b281 ((mp2).length) c282 mp2, .own 2 1 b192 (((F_GreatestSimulation mp0 mp1 mp2 np0 np1 np2).1).length) c193 ((F_GreatestSimulation mp0 mp1 mp2 np0 np1 np2).1), .blk b169 #[.int .i64 np0, .slice b163 ((np1).length) c164, .slice b165 ((np2).length) c166] 38, .blk b142 #[.int .i64 mp0, .slice b136 ((mp1).length) c137, .slice b138 ((mp2).length) c139] 38, .own 2 1 b114 (((F_s_GreatestSimulation mp0 mp1 mp2 np0 np1 np2).1).length) c115 ((F_s_GreatestSimulation mp0 mp1 mp2 np0 np1 np2).1), .own 2 1 b102 ((np1).length) c103 np1, .own 2 1 b104 ((np2).length) c105 np2, .own 2 1 b90 ((mp1).length) c91 mp1, .own 2 1 b92 ((mp2).length) c93 mp2, .rd 1 np1A np1.length np1C np1, .rd 1 np2A np2.length np2C np2, .blk b11 #[.int .i64 np0, .slice np1A np1.length np1C, .slice np2A np2.length np2C] 35, .rd 1 mp1A mp1.length mp1C mp1, .rd 1 mp2A mp2.length mp2C mp2, .blk b5 #[.int .i64 mp0, .slice mp1A mp1.length mp1C, .slice mp2A mp2.length mp2C] 35]) hS367 [0, 1, 2, 3, 4, 5, 6, 7, 8, 9, 10, 11, 12, 13, 14, 15, 16, 17, 18, 19, 20, 21] (by decide) rfl)
                  exact ⟨(by rw [hb379]; exact hE403), hS404⟩
                ·
                  have hE405 := hE378; rw [hb379] at hE405; clear hE378
                  have hp406 := of_decide_eq_false hb379
                  refine q_step (v := .slice b192 (((F_GreatestSimulation mp0 mp1 mp2 np0 np1 np2).1).length) c193) hE405 (y_move rfl) rfl rfl rfl ?_; intro a407 hE408; clear hE405
                  refine q_step (v := .slice b114 (((F_s_GreatestSimulation mp0 mp1 mp2 np0 np1 np2).1).length) c115) hE408 (y_move rfl) rfl rfl rfl ?_; intro a409 hE410; clear hE408
                  refine l_step hE410 rfl (l_call (f := 21) (argv := [.slice b192 (((F_GreatestSimulation mp0 mp1 mp2 np0 np1 np2).1).length) c193, .slice b114 (((F_s_GreatestSimulation mp0 mp1 mp2 np0 np1 np2).1).length) c115]) hE410 (fun _ => cf_l_eqInt64S _ _) rfl rfl (d_l_eqInt64S b192 (((F_GreatestSimulation mp0 mp1 mp2 np0 np1 np2).1).length) c193 ((F_GreatestSimulation mp0 mp1 mp2 np0 np1 np2).1) b114 (((F_s_GreatestSimulation mp0 mp1 mp2 np0 np1 np2).1).length) c115 ((F_s_GreatestSimulation mp0 mp1 mp2 np0 np1 np2).1) w364 (St.rdO (i := 8) hS367 rfl) (St.rdO (i := 11) hS367 rfl)) ?_)
                  rintro _ w412 ⟨rfl, he416⟩ a413 hE414; clear hE410
                  have hS415 := St.go hS367 he416; clear hS367
                  refine q_step (v := .bool (!(decide (((F_GreatestSimulation mp0 mp1 mp2 np0 np1 np2).1) = ((F_s_GreatestSimulation mp0 mp1 mp2 np0 np1 np2).1))))) hE414 (y_not rfl) rfl rfl rfl ?_; intro a417 hE418; clear hE414
                  refine q_step (v := .bool (!(decide (((F_GreatestSimulation mp0 mp1 mp2 np0 np1 np2).1) = ((F_s_GreatestSimulation mp0 mp1 mp2 np0 np1 np2).1))))) hE418 (y_pick (b := false) rfl rfl) rfl rfl rfl ?_; intro a419 hE420; clear hE418
                  refine q_step (v := .bool (!(decide (((F_GreatestSimulation mp0 mp1 mp2 np0 np1 np2).1) = ((F_s_GreatestSimulation mp0 mp1 mp2 np0 np1 np2).1))))) hE420 (y_move rfl) rfl rfl rfl ?_; intro a421 hE422; clear hE420
                  rcases Bool.eq_false_or_eq_true (!(decide (((F_GreatestSimulation mp0 mp1 mp2 np0 np1 np2).1) = ((F_s_GreatestSimulation mp0 mp1 mp2 np0 np1 np2).1)))) with hb423 | hb423
                  ·
                    have hE424 := hE422; rw [hb423] at hE424; clear hE422
                    have ht425 := bn_t hb423
                    have hp426 := of_decide_eq_false ht425
                    refine q_skip hE424 rfl rfl rfl ?_; intro a427 hE428; clear hE424
                    refine q_skip hE428 rfl rfl rfl ?_; intro a429 hE430; clear hE428
                    refine q_skip hE430 rfl rfl rfl ?_; intro a431 hE432; clear hE430
                    refine q_step (v := .bool true) hE432 (y_pick (b := true) rfl rfl) rfl rfl rfl ?_; intro a433 hE434; clear hE432
                    refine c_nil ?_
                    have hE435 := hE434.sub (L' := [(2, .pointer (some ⟨b5, 0, none⟩)), (3, .pointer (some ⟨b11, 0, none⟩)), (6, .slice b114 (((F_s_GreatestSimulation mp0 mp1 mp2 np0 np1 np2).1).length) c115), (7, .int .i64 ((F_s_GreatestSimulation mp0 mp1 mp2 np0 np1 np2).2)), (10, .slice b192 (((F_GreatestSimulation mp0 mp1 mp2 np0 np1 np2).1).length) c193), (82, .bool true)]) ⟨rfl, rfl, rfl, rfl, rfl, rfl, trivial⟩; clear hE434
                    refine p_tn ?_
                    have hE436 := hE435.sub (L' := [(2, .pointer (some ⟨b5, 0, none⟩)), (3, .pointer (some ⟨b11, 0, none⟩)), (6, .slice b114 (((F_s_GreatestSimulation mp0 mp1 mp2 np0 np1 np2).1).length) c115), (7, .int .i64 ((F_s_GreatestSimulation mp0 mp1 mp2 np0 np1 np2).2)), (10, .slice b192 (((F_GreatestSimulation mp0 mp1 mp2 np0 np1 np2).1).length) c193), (82, .bool true)]) ⟨rfl, rfl, rfl, rfl, rfl, rfl, trivial⟩
                    have hS437 := (St.pick (Γ' := [.own 2 1 b165 ((np2).length) c166 (marked np2.length ((1 + (mp1.length : Int) + (mp2.length : Int)) + (np1.length : Int))), .own 2 1 b163 ((np1).length) c164 (marked np1.length (1 + (mp1.length : Int) + (mp2.length : Int))), .own 2 1 b138 ((mp2).length) c139 (marked mp2.length (1 + (mp1.length : Int))), .own 2 1 b136 ((mp1).length) c137 (marked mp1.length 1), .own 2 1 b317 ((np1).length) c318 np1, .own 2 1 b319 ((np2).length) c320 np2, .own 2 1 b279 ((mp1).length) c280 mp1, .own 2 1 b281 ((mp2).length) c282 mp2, .own 2 1 b192 (((F_GreatestSimulation mp0 mp1 mp2 np0 np1 np2).1).length) c193 ((F_GreatestSimulation mp0 mp1 mp2 np0 np1 np2).1), .blk b169 #[.int .i64 np0, .slice b163 ((np1).length) c164, .slice b165 ((np2).length) c166] 38, .blk b142 #[.int .i64 mp0, .slice b136 ((mp1).length) c137, .slice b138 ((mp2).length) c139] 38, .own 2 1 b114 (((F_s_GreatestSimulation mp0 mp1 mp2 np0 np1 np2).1).length) c115 ((F_s_GreatestSimulation mp0 mp1 mp2 np0 np1 np2).1), .own 2 1 b102 ((np1).length) c103 np1, .own 2 1 b104 ((np2).length) c105 np2, .own 2 1 b90 ((mp1).length) c91 mp1, .own 2 1 b92 ((mp2).length) c93 mp2, .rd 1 np1A np1.length np1C np1, .rd 1 np2A np2.length np2C np2, .blk b11 #[.int .i64 np0, .slice np1A np1.length np1C, .slice np2A np2.length np2C] 35, .rd 1 mp1A mp1.length mp1C mp1, .rd 1 mp2A mp2.length mp2C mp2, .blk b5 #[.int .i64 mp0, .slice mp1A mp1.length mp1C, .slice mp2A mp2.length mp2C] 35]) hS415 [0, 1, 2, 3, 4, 5, 6, 7, 8, 9, 10, 11, 12, 13, 14, 15, 16, 17, 18, 19, 20, 21] (by decide) rfl)
                    exact ⟨(by rw [hb423, hb379]; exact hE436), hS437⟩
                  ·
                    have hE438 := hE422; rw [hb423] at hE438; clear hE422
                    have ht439 := bn_f hb423
                    have hp440 := of_decide_eq_true ht439
                    refine q_step (v := .int .i64 ((F_GreatestSimulation mp0 mp1 mp2 np0 np1 np2).2)) hE438 (y_move rfl) rfl rfl rfl ?_; intro a441 hE442; clear hE438
                    refine q_step (v := .int .i64 ((F_s_GreatestSimulation mp0 mp1 mp2 np0 np1 np2).2)) hE442 (y_move rfl) rfl rfl rfl ?_; intro a443 hE444; clear hE442
                    refine q_step (v := .bool (!decide (((F_GreatestSimulation mp0 mp1 mp2 np0 np1 np2).2) = ((F_s_GreatestSimulation mp0 mp1 mp2 np0 np1 np2).2)))) hE444 (y_neq rfl rfl) rfl rfl rfl ?_; intro a445 hE446; clear hE444
                    refine q_step (v := .bool (!decide (((F_GreatestSimulation mp0 mp1 mp2 np0 np1 np2).2) = ((F_s_GreatestSimulation mp0 mp1 mp2 np0 np1 np2).2)))) hE446 (y_pick (b := false) rfl rfl) rfl rfl rfl ?_; intro a447 hE448; clear hE446
                    refine c_nil ?_
                    have hE449 := hE448.sub (L' := [(2, .pointer (some ⟨b5, 0, none⟩)), (3, .pointer (some ⟨b11, 0, none⟩)), (6, .slice b114 (((F_s_GreatestSimulation mp0 mp1 mp2 np0 np1 np2).1).length) c115), (7, .int .i64 ((F_s_GreatestSimulation mp0 mp1 mp2 np0 np1 np2).2)), (10, .slice b192 (((F_GreatestSimulation mp0 mp1 mp2 np0 np1 np2).1).length) c193), (82, .bool (!decide (((F_GreatestSimulation mp0 mp1 mp2 np0 np1 np2).2) = ((F_s_GreatestSimulation mp0 mp1 mp2 np0 np1 np2).2))))]) ⟨rfl, rfl, rfl, rfl, rfl, rfl, trivial⟩; clear hE448
                    refine p_tn ?_
                    have hE450 := hE449.sub (L' := [(2, .pointer (some ⟨b5, 0, none⟩)), (3, .pointer (some ⟨b11, 0, none⟩)), (6, .slice b114 (((F_s_GreatestSimulation mp0 mp1 mp2 np0 np1 np2).1).length) c115), (7, .int .i64 ((F_s_GreatestSimulation mp0 mp1 mp2 np0 np1 np2).2)), (10, .slice b192 (((F_GreatestSimulation mp0 mp1 mp2 np0 np1 np2).1).length) c193), (82, .bool (!decide (((F_GreatestSimulation mp0 mp1 mp2 np0 np1 np2).2) = ((F_s_GreatestSimulation mp0 mp1 mp2 np0 np1 np2).2))))]) ⟨rfl, rfl, rfl, rfl, rfl, rfl, trivial⟩
                    have hS451 := (St.pick (Γ' := [.own 2 1 b165 ((np2).length) c166 (marked np2.length ((1 + (mp1.length : Int) + (mp2.length : Int)) + (np1.length : Int))), .own 2 1 b163 ((np1).length) c164 (marked np1.length (1 + (mp1.length : Int) + (mp2.length : Int))), .own 2 1 b138 ((mp2).length) c139 (marked mp2.length (1 + (mp1.length : Int))), .own 2 1 b136 ((mp1).length) c137 (marked mp1.length 1), .own 2 1 b317 ((np1).length) c318 np1, .own 2 1 b319 ((np2).length) c320 np2, .own 2 1 b279 ((mp1).length) c280 mp1, .own 2 1 b281 ((mp2).length) c282 mp2, .own 2 1 b192 (((F_GreatestSimulation mp0 mp1 mp2 np0 np1 np2).1).length) c193 ((F_GreatestSimulation mp0 mp1 mp2 np0 np1 np2).1), .blk b169 #[.int .i64 np0, .slice b163 ((np1).length) c164, .slice b165 ((np2).length) c166] 38, .blk b142 #[.int .i64 mp0, .slice b136 ((mp1).length) c137, .slice b138 ((mp2).length) c139] 38, .own 2 1 b114 (((F_s_GreatestSimulation mp0 mp1 mp2 np0 np1 np2).1).length) c115 ((F_s_GreatestSimulation mp0 mp1 mp2 np0 np1 np2).1), .own 2 1 b102 ((np1).length) c103 np1, .own 2 1 b104 ((np2).length) c105 np2, .own 2 1 b90 ((mp1).length) c91 mp1, .own 2 1 b92 ((mp2).length) c93 mp2, .rd 1 np1A np1.length np1C np1, .rd 1 np2A np2.length np2C np2, .blk b11 #[.int .i64 np0, .slice np1A np1.length np1C, .slice np2A np2.length np2C] 35, .rd 1 mp1A mp1.length mp1C mp1, .rd 1 mp2A mp2.length mp2C mp2, .blk b5 #[.int .i64 mp0, .slice mp1A mp1.length mp1C, .slice mp2A mp2.length mp2C] 35]) hS415 [0, 1, 2, 3, 4, 5, 6, 7, 8, 9, 10, 11, 12, 13, 14, 15, 16, 17, 18, 19, 20, 21] (by decide) rfl)
                    exact ⟨(by rw [hb423, hb379]; exact hE450), hS451⟩
              ·
                rintro a452 w453 ⟨hE454, hS455⟩; clear hE372 hS367
                refine c_cond hE454 rfl (fun ht456 => ?_) (fun ht456 => ?_)
                ·
                  have hE457 := hE454; rw [ht456] at hE457; clear hE454
                  refine c_seq ?_
                  refine c_reg ?_
                  refine q_step (v := .bool false) hE457 (y_assign rfl) rfl rfl rfl ?_; intro a458 hE459; clear hE457
                  refine c_nil ?_
                  have hE460 := hE459.sub (L' := [(4, .bool false)]) ⟨rfl, trivial⟩; clear hE459
                  refine p_tn ?_
                  refine wp_ret ?_
                  refine p_tr ?_
                  have hF : F_l_FnExactGreatestSimulation mp0 mp1 mp2 np0 np1 np2 = false := by unfold F_l_FnExactGreatestSimulation; rw [ht456, ht332, ht294, ht254, ht68, ht41]; first | done | rfl
                  refine c_ret1 hE460 rfl rfl ?_
                  exact ⟨(by rw [hF]; first | done | rfl), hS455.ext⟩
                ·
                  obtain ⟨ht461, ht462⟩ := bor_f ht456
                  have hp463 := of_decide_eq_false ht461
                  obtain ⟨ht464, ht465⟩ := bor_f ht462
                  have ht466 := bn_f ht464
                  have hp467 := of_decide_eq_true ht466
                  have ht468 := bn_f ht465
                  have hp469 := of_decide_eq_true ht468
                  have hE470 := hE454; rw [ht456] at hE470; clear hE454
                  refine wp_skip ?_
                  refine p_tn ?_
                  refine c_seq ?_
                  refine c_reg ?_
                  refine q_step (v := .int .i64 1) hE470 (y_assign rfl) rfl rfl rfl ?_; intro a471 hE472; clear hE470
                  refine c_nil ?_
                  have hE473 := hE472.sub (L' := [(2, .pointer (some ⟨b5, 0, none⟩)), (3, .pointer (some ⟨b11, 0, none⟩)), (6, .slice b114 (((F_s_GreatestSimulation mp0 mp1 mp2 np0 np1 np2).1).length) c115), (7, .int .i64 ((F_s_GreatestSimulation mp0 mp1 mp2 np0 np1 np2).2)), (10, .slice b192 (((F_GreatestSimulation mp0 mp1 mp2 np0 np1 np2).1).length) c193), (13, .int .i64 1)]) ⟨rfl, rfl, rfl, rfl, rfl, rfl, trivial⟩; clear hE472
                  refine p_tn ?_
                  refine c_seq ?_
                  refine c_reg ?_
                  refine q_step (v := .slice b192 (((F_GreatestSimulation mp0 mp1 mp2 np0 np1 np2).1).length) c193) hE473 (y_move rfl) rfl rfl rfl ?_; intro a474 hE475; clear hE473
                  refine q_step (v := .int .i64 1) hE475 (y_move rfl) rfl rfl rfl ?_; intro a476 hE477; clear hE475
                  have hS484 := (St.pick (Γ' := [.own 2 1 b192 (((F_GreatestSimulation mp0 mp1 mp2 np0 np1 np2).1).length) c193 ((F_GreatestSimulation mp0 mp1 mp2 np0 np1 np2).1), .own 2 1 b165 ((np2).length) c166 (marked np2.length ((1 + (mp1.length : Int) + (mp2.length : Int)) + (np1.length : Int))), .own 2 1 b163 ((np1).length) c164 (marked np1.length (1 + (mp1.length : Int) + (mp2.length : Int))), .own 2 1 b138 ((mp2).length) c139 (marked mp2.length (1 + (mp1.length : Int))), .own 2 1 b136 ((mp1).length) c137 (marked mp1.length 1), .own 2 1 b317 ((np1).length) c318 np1, .own 2 1 b319 ((np2).length) c320 np2, .own 2 1 b279 ((mp1).length) c280 mp1, .own 2 1 b281 ((mp2).length) c282 mp2, .blk b169 #[.int .i64 np0, .slice b163 ((np1).length) c164, .slice b165 ((np2).length) c166] 38, .blk b142 #[.int .i64 mp0, .slice b136 ((mp1).length) c137, .slice b138 ((mp2).length) c139] 38, .own 2 1 b114 (((F_s_GreatestSimulation mp0 mp1 mp2 np0 np1 np2).1).length) c115 ((F_s_GreatestSimulation mp0 mp1 mp2 np0 np1 np2).1), .own 2 1 b102 ((np1).length) c103 np1, .own 2 1 b104 ((np2).length) c105 np2, .own 2 1 b90 ((mp1).length) c91 mp1, .own 2 1 b92 ((mp2).length) c93 mp2, .rd 1 np1A np1.length np1C np1, .rd 1 np2A np2.length np2C np2, .blk b11 #[.int .i64 np0, .slice np1A np1.length np1C, .slice np2A np2.length np2C] 35, .rd 1 mp1A mp1.length mp1C mp1, .rd 1 mp2A mp2.length mp2C mp2, .blk b5 #[.int .i64 mp0, .slice mp1A mp1.length mp1C, .slice mp2A mp2.length mp2C] 35]) hS455 [8, 0, 1, 2, 3, 4, 5, 6, 7, 9, 10, 11, 12, 13, 14, 15, 16, 17, 18, 19, 20, 21] (by decide) rfl); clear hS455
                  refine l_step hE477 rfl (l_call (f := 32) (argv := [.slice b192 (((F_GreatestSimulation mp0 mp1 mp2 np0 np1 np2).1).length) c193, .int .i64 1]) hE477 (fun _ => cf_l_markInt64S _ _) rfl rfl (d_l_markInt64S b192 (((F_GreatestSimulation mp0 mp1 mp2 np0 np1 np2).1).length) c193 ((F_GreatestSimulation mp0 mp1 mp2 np0 np1 np2).1) 1 w453 w [.own 2 1 b165 ((np2).length) c166 (marked np2.length ((1 + (mp1.length : Int) + (mp2.length : Int)) + (np1.length : Int))), .own 2 1 b163 ((np1).length) c164 (marked np1.length (1 + (mp1.length : Int) + (mp2.length : Int))), .own 2 1 b138 ((mp2).length) c139 (marked mp2.length (1 + (mp1.length : Int))), .own 2 1 b136 ((mp1).length) c137 (marked mp1.length 1), .own 2 1 b317 ((np1).length) c318 np1, .own 2 1 b319 ((np2).length) c320 np2, .own 2 1 b279 ((mp1).length) c280 mp1, .own 2 1 b281 ((mp2).length) c282 mp2, .blk b169 #[.int .i64 np0, .slice b163 ((np1).length) c164, .slice b165 ((np2).length) c166] 38, .blk b142 #[.int .i64 mp0, .slice b136 ((mp1).length) c137, .slice b138 ((mp2).length) c139] 38, .own 2 1 b114 (((F_s_GreatestSimulation mp0 mp1 mp2 np0 np1 np2).1).length) c115 ((F_s_GreatestSimulation mp0 mp1 mp2 np0 np1 np2).1), .own 2 1 b102 ((np1).length) c103 np1, .own 2 1 b104 ((np2).length) c105 np2, .own 2 1 b90 ((mp1).length) c91 mp1, .own 2 1 b92 ((mp2).length) c93 mp2, .rd 1 np1A np1.length np1C np1, .rd 1 np2A np2.length np2C np2, .blk b11 #[.int .i64 np0, .slice np1A np1.length np1C, .slice np2A np2.length np2C] 35, .rd 1 mp1A mp1.length mp1C mp1, .rd 1 mp2A mp2.length mp2C mp2, .blk b5 #[.int .i64 mp0, .slice mp1A mp1.length mp1C, .slice mp2A mp2.length mp2C] 35] hS484 (by first | omega | (simp only [marked_len]; omega)) (by first | omega | (simp only [marked_len]; omega)) (by first | omega | (simp only [marked_len]; omega))) ?_)
                  rintro _ w479 ⟨rfl, hS482⟩ a480 hE481; clear hE477 hS484
                  refine q_step (v := .int .i64 (1 + (((F_GreatestSimulation mp0 mp1 mp2 np0 np1 np2).1).length : Int))) hE481 (y_assign rfl) rfl rfl rfl ?_; intro a485 hE486; clear hE481
                  refine c_nil ?_
                  have hE487 := hE486.sub (L' := [(2, .pointer (some ⟨b5, 0, none⟩)), (3, .pointer (some ⟨b11, 0, none⟩)), (6, .slice b114 (((F_s_GreatestSimulation mp0 mp1 mp2 np0 np1 np2).1).length) c115), (7, .int .i64 ((F_s_GreatestSimulation mp0 mp1 mp2 np0 np1 np2).2)), (10, .slice b192 (((F_GreatestSimulation mp0 mp1 mp2 np0 np1 np2).1).length) c193), (13, .int .i64 (1 + (((F_GreatestSimulation mp0 mp1 mp2 np0 np1 np2).1).length : Int)))]) ⟨rfl, rfl, rfl, rfl, rfl, rfl, trivial⟩; clear hE486
                  refine p_tn ?_
                  refine c_seq ?_
                  refine c_reg ?_
                  refine q_step (v := .int .i64 1) hE487 (y_assign rfl) rfl rfl rfl ?_; intro a488 hE489; clear hE487
                  refine c_nil ?_
                  have hE490 := hE489.sub (L' := [(2, .pointer (some ⟨b5, 0, none⟩)), (3, .pointer (some ⟨b11, 0, none⟩)), (6, .slice b114 (((F_s_GreatestSimulation mp0 mp1 mp2 np0 np1 np2).1).length) c115), (7, .int .i64 ((F_s_GreatestSimulation mp0 mp1 mp2 np0 np1 np2).2)), (10, .slice b192 (((F_GreatestSimulation mp0 mp1 mp2 np0 np1 np2).1).length) c193), (13, .int .i64 (1 + (((F_GreatestSimulation mp0 mp1 mp2 np0 np1 np2).1).length : Int))), (14, .int .i64 1)]) ⟨rfl, rfl, rfl, rfl, rfl, rfl, rfl, trivial⟩; clear hE489
                  refine p_tn ?_
                  refine c_seq ?_
                  refine c_reg ?_
                  refine q_step (v := .slice b192 (((F_GreatestSimulation mp0 mp1 mp2 np0 np1 np2).1).length) c193) hE490 (y_move rfl) rfl rfl rfl ?_; intro a491 hE492; clear hE490
                  refine q_step (v := .int .i64 1) hE492 (y_move rfl) rfl rfl rfl ?_; intro a493 hE494; clear hE492
                  refine l_step hE494 rfl (l_call (f := 45) (argv := [.slice b192 (((F_GreatestSimulation mp0 mp1 mp2 np0 np1 np2).1).length) c193, .int .i64 1]) hE494 (fun _ => cf_l_heldInt64S _ _) rfl rfl (c_l_heldInt64S b192 (((F_GreatestSimulation mp0 mp1 mp2 np0 np1 np2).1).length) c193 (marked ((F_GreatestSimulation mp0 mp1 mp2 np0 np1 np2).1).length 1) 1 w479 (St.rdO (i := 0) hS482 rfl) (by first | omega | (simp only [marked_len]; omega)) (by first | omega | (simp only [marked_len]; omega)) (by first | omega | (simp only [marked_len]; omega))) ?_)
                  rintro _ w496 ⟨rfl, he500⟩ a497 hE498; clear hE494
                  have hS499 := St.go hS482 he500; clear hS482
                  refine q_step (v := .int .i64 (F_l_heldInt64S (marked ((F_GreatestSimulation mp0 mp1 mp2 np0 np1 np2).1).length 1) 1)) hE498 (y_assign rfl) rfl rfl rfl ?_; intro a501 hE502; clear hE498
                  refine c_nil ?_
                  have hE503 := hE502.sub (L' := [(2, .pointer (some ⟨b5, 0, none⟩)), (3, .pointer (some ⟨b11, 0, none⟩)), (6, .slice b114 (((F_s_GreatestSimulation mp0 mp1 mp2 np0 np1 np2).1).length) c115), (7, .int .i64 ((F_s_GreatestSimulation mp0 mp1 mp2 np0 np1 np2).2)), (10, .slice b192 (((F_GreatestSimulation mp0 mp1 mp2 np0 np1 np2).1).length) c193), (13, .int .i64 (1 + (((F_GreatestSimulation mp0 mp1 mp2 np0 np1 np2).1).length : Int))), (14, .int .i64 (F_l_heldInt64S (marked ((F_GreatestSimulation mp0 mp1 mp2 np0 np1 np2).1).length 1) 1))]) ⟨rfl, rfl, rfl, rfl, rfl, rfl, rfl, trivial⟩; clear hE502
                  refine p_tn ?_
                  refine c_seq ?_
                  refine c_seq ?_
                  refine c_reg ?_
                  refine q_step (v := .int .i64 (F_l_heldInt64S (marked ((F_GreatestSimulation mp0 mp1 mp2 np0 np1 np2).1).length 1) 1)) hE503 (y_move rfl) rfl rfl rfl ?_; intro a504 hE505; clear hE503
                  refine q_step (v := .bool (decide ((F_l_heldInt64S (marked ((F_GreatestSimulation mp0 mp1 mp2 np0 np1 np2).1).length 1) 1) < 0))) hE505 (y_lss rfl rfl) rfl rfl rfl ?_; intro a506 hE507; clear hE505
                  refine c_nil ?_
                  have hE508 := hE507.sub (L' := [(2, .pointer (some ⟨b5, 0, none⟩)), (3, .pointer (some ⟨b11, 0, none⟩)), (6, .slice b114 (((F_s_GreatestSimulation mp0 mp1 mp2 np0 np1 np2).1).length) c115), (7, .int .i64 ((F_s_GreatestSimulation mp0 mp1 mp2 np0 np1 np2).2)), (10, .slice b192 (((F_GreatestSimulation mp0 mp1 mp2 np0 np1 np2).1).length) c193), (13, .int .i64 (1 + (((F_GreatestSimulation mp0 mp1 mp2 np0 np1 np2).1).length : Int))), (14, .int .i64 (F_l_heldInt64S (marked ((F_GreatestSimulation mp0 mp1 mp2 np0 np1 np2).1).length 1) 1)), (90, .bool (decide ((F_l_heldInt64S (marked ((F_GreatestSimulation mp0 mp1 mp2 np0 np1 np2).1).length 1) 1) < 0)))]) ⟨rfl, rfl, rfl, rfl, rfl, rfl, rfl, rfl, trivial⟩; clear hE507
                  refine p_tn ?_
                  refine c_cond hE508 rfl (fun ht509 => ?_) (fun ht509 => ?_)
                  ·
                    have hp510 := of_decide_eq_true ht509
                    have hE511 := hE508; rw [ht509] at hE511; clear hE508
                    refine c_seq ?_
                    refine c_reg ?_
                    refine q_step (v := .bool false) hE511 (y_assign rfl) rfl rfl rfl ?_; intro a512 hE513; clear hE511
                    refine c_nil ?_
                    have hE514 := hE513.sub (L' := [(4, .bool false)]) ⟨rfl, trivial⟩; clear hE513
                    refine p_tn ?_
                    refine wp_ret ?_
                    refine p_tr ?_
                    have hF : F_l_FnExactGreatestSimulation mp0 mp1 mp2 np0 np1 np2 = false := by unfold F_l_FnExactGreatestSimulation; rw [ht509, ht456, ht332, ht294, ht254, ht68, ht41]; first | done | rfl
                    refine c_ret1 hE514 rfl rfl ?_
                    exact ⟨(by rw [hF]; first | done | rfl), hS499.ext⟩
                  ·
                    have hp515 := of_decide_eq_false ht509
                    have hE516 := hE508; rw [ht509] at hE516; clear hE508
                    refine wp_skip ?_
                    refine p_tn ?_
                    refine c_seq ?_
                    refine c_seq ?_
                    refine c_reg ?_
                    refine q_step (v := .int .i64 (F_l_heldInt64S (marked ((F_GreatestSimulation mp0 mp1 mp2 np0 np1 np2).1).length 1) 1)) hE516 (y_move rfl) rfl rfl rfl ?_; intro a517 hE518; clear hE516
                    refine q_step (v := .int .i64 (1 + (((F_GreatestSimulation mp0 mp1 mp2 np0 np1 np2).1).length : Int))) hE518 (y_move rfl) rfl rfl rfl ?_; intro a519 hE520; clear hE518
                    refine q_step (v := .bool (!decide ((F_l_heldInt64S (marked ((F_GreatestSimulation mp0 mp1 mp2 np0 np1 np2).1).length 1) 1) = (1 + (((F_GreatestSimulation mp0 mp1 mp2 np0 np1 np2).1).length : Int))))) hE520 (y_neq rfl rfl) rfl rfl rfl ?_; intro a521 hE522; clear hE520
                    refine c_nil ?_
                    have hE523 := hE522.sub (L' := [(2, .pointer (some ⟨b5, 0, none⟩)), (3, .pointer (some ⟨b11, 0, none⟩)), (6, .slice b114 (((F_s_GreatestSimulation mp0 mp1 mp2 np0 np1 np2).1).length) c115), (7, .int .i64 ((F_s_GreatestSimulation mp0 mp1 mp2 np0 np1 np2).2)), (10, .slice b192 (((F_GreatestSimulation mp0 mp1 mp2 np0 np1 np2).1).length) c193), (13, .int .i64 (1 + (((F_GreatestSimulation mp0 mp1 mp2 np0 np1 np2).1).length : Int))), (93, .bool (!decide ((F_l_heldInt64S (marked ((F_GreatestSimulation mp0 mp1 mp2 np0 np1 np2).1).length 1) 1) = (1 + (((F_GreatestSimulation mp0 mp1 mp2 np0 np1 np2).1).length : Int)))))]) ⟨rfl, rfl, rfl, rfl, rfl, rfl, rfl, trivial⟩; clear hE522
                    refine p_tn ?_
                    refine c_cond hE523 rfl (fun ht524 => ?_) (fun ht524 => ?_)
                    ·
                      have ht525 := bn_t ht524
                      have hp526 := of_decide_eq_false ht525
                      have hE527 := hE523; rw [ht524] at hE527; clear hE523
                      refine c_seq ?_
                      refine c_reg ?_
                      refine q_step (v := .bool false) hE527 (y_assign rfl) rfl rfl rfl ?_; intro a528 hE529; clear hE527
                      refine c_nil ?_
                      have hE530 := hE529.sub (L' := [(4, .bool false)]) ⟨rfl, trivial⟩; clear hE529
                      refine p_tn ?_
                      refine wp_ret ?_
                      refine p_tr ?_
                      have hF : F_l_FnExactGreatestSimulation mp0 mp1 mp2 np0 np1 np2 = false := by unfold F_l_FnExactGreatestSimulation; rw [ht524, ht509, ht456, ht332, ht294, ht254, ht68, ht41]; first | done | rfl
                      refine c_ret1 hE530 rfl rfl ?_
                      exact ⟨(by rw [hF]; first | done | rfl), hS499.ext⟩
                    ·
                      have ht531 := bn_f ht524
                      have hp532 := of_decide_eq_true ht531
                      have hE533 := hE523; rw [ht524] at hE533; clear hE523
                      refine wp_skip ?_
                      refine p_tn ?_
                      refine c_seq ?_
                      refine d_start (fun w' => w'.heap[b5]? = some (.cells #[.int .i64 mp0, .slice mp1A mp1.length mp1C, .slice mp2A mp2.length mp2C] 35 (0, 0)) ∧ w'.heap[b11]? = some (.cells #[.int .i64 np0, .slice np1A np1.length np1C, .slice np2A np2.length np2C] 35 (0, 0)) ∧ True) [0, 2] 10 (by kernel_rfl) rfl ?_
                      intro w534 he535; have hS536 := St.go hS499 he535; clear hS499
                      refine d_take (v := .agg #[.int .i64 mp0, .slice mp1A mp1.length mp1C, .slice mp2A mp2.length mp2C]) 0 rfl hE533 ⟨(St.row (i := 21) hS536 rfl _ (Ext.refl _)), (St.row (i := 18) hS536 rfl _ (Ext.refl _)), trivial⟩ (y_loadS Try.underlying35 rfl (by kernel_rfl) rfl (fun _ h => h.1)) rfl rfl (by kernel_rfl) (by kernel_rfl) (by kernel_rfl) rfl rfl (fun _ _ _ h => h) ?_; intro a537 hE538; clear hE533
                      refine d_take (v := .agg #[.int .i64 np0, .slice np1A np1.length np1C, .slice np2A np2.length np2C]) 2 rfl hE538 ⟨(St.row (i := 21) hS536 rfl _ (Ext.refl _)), (St.row (i := 18) hS536 rfl _ (Ext.refl _)), trivial⟩ (y_loadS Try.underlying35 rfl (by kernel_rfl) rfl (fun _ h => h.2.1)) rfl rfl (by kernel_rfl) (by kernel_rfl) (by kernel_rfl) rfl rfl (fun _ _ _ h => h) ?_; intro a539 hE540; clear hE538
                      refine d_only 1 (by kernel_rfl) rfl hE540 rfl (l_call (f := 24) (argv := [.agg #[.int .i64 mp0, .slice mp1A mp1.length mp1C, .slice mp2A mp2.length mp2C]]) hE540 (fun _ => cf_l_toModel _ _) rfl rfl (d_l_toModel mp0 mp1A mp1.length mp1C mp1 mp2A mp2.length mp2C mp2 w534 (St.rdR (i := 19) hS536 rfl) (St.rdR (i := 20) hS536 rfl) (by first | omega | (simp only [marked_len]; omega)) (by first | omega | (simp only [marked_len]; omega))) ?_)
                      rintro _ w542 ⟨b547, c548, b549, c550, rfl, ho551, he546⟩ a543 hE544; clear hE540
                      have hS545 := St.push2 hS536 he546 ho551; clear hS536
                      refine ⟨fun _ _ => ⟨(St.row (i := 23) hS545 rfl _ (Ext.refl _)), (St.row (i := 20) hS545 rfl _ (Ext.refl _)), trivial⟩, ?_⟩
                      refine d_only 3 (by kernel_rfl) rfl hE544 rfl (l_call (f := 24) (argv := [.agg #[.int .i64 np0, .slice np1A np1.length np1C, .slice np2A np2.length np2C]]) hE544 (fun _ => cf_l_toModel _ _) rfl rfl (d_l_toModel np0 np1A np1.length np1C np1 np2A np2.length np2C np2 w542 (St.rdR (i := 18) hS545 rfl) (St.rdR (i := 19) hS545 rfl) (by first | omega | (simp only [marked_len]; omega)) (by first | omega | (simp only [marked_len]; omega))) ?_)
                      rintro _ w554 ⟨b559, c560, b561, c562, rfl, ho563, he558⟩ a555 hE556; clear hE544
                      have hS557 := St.push2 hS545 he558 ho563; clear hS545
                      refine ⟨fun _ _ => ⟨(St.row (i := 25) hS557 rfl _ (Ext.refl _)), (St.row (i := 22) hS557 rfl _ (Ext.refl _)), trivial⟩, ?_⟩
                      refine d_only 4 (by kernel_rfl) rfl hE556 rfl (l_call (f := 51) (argv := [.agg #[.int .i64 mp0, .slice b547 ((mp1).length) c548, .slice b549 ((mp2).length) c550], .agg #[.int .i64 np0, .slice b559 ((np1).length) c560, .slice b561 ((np2).length) c562]]) hE556 (fun _ => cf_GreatestSimulation _ _) rfl rfl (c_GreatestSimulation mp0 b547 ((mp1).length) c548 mp1 b549 ((mp2).length) c550 mp2 np0 b559 ((np1).length) c560 np1 b561 ((np2).length) c562 np2 w554 (St.rdO (i := 2) hS557 rfl) (St.rdO (i := 3) hS557 rfl) (St.rdO (i := 0) hS557 rfl) (St.rdO (i := 1) hS557 rfl)) ?_)
                      rintro _ w566 ⟨b571, c572, rfl, ho573, he570⟩ a567 hE568; clear hE556
                      have hf574 := GreatestSimulation_len mp0 mp1 mp2 np0 np1 np2
                      have hS569 := St.own hS557 he570 ho573; clear hS557
                      refine ⟨fun _ _ => ⟨(St.row (i := 26) hS569 rfl _ (Ext.refl _)), (St.row (i := 23) hS569 rfl _ (Ext.refl _)), trivial⟩, ?_⟩
                      refine d_pure (v := .tuple #[.slice b571 (((F_GreatestSimulation mp0 mp1 mp2 np0 np1 np2).1).length) c572, .int .i64 ((F_GreatestSimulation mp0 mp1 mp2 np0 np1 np2).2)]) 5 rfl hE568 (y_move rfl) rfl (by kernel_rfl) (by kernel_rfl) (by kernel_rfl) rfl rfl (fun _ _ _ h => h) ?_; intro a575 hE576; clear hE568
                      refine d_pure (v := .slice b571 (((F_GreatestSimulation mp0 mp1 mp2 np0 np1 np2).1).length) c572) 6 rfl hE576 (y_extract rfl rfl) rfl (by kernel_rfl) (by kernel_rfl) (by kernel_rfl) rfl rfl (fun _ _ _ h => h) ?_; intro a577 hE578; clear hE576
                      refine d_pure (v := .int .i64 ((F_GreatestSimulation mp0 mp1 mp2 np0 np1 np2).2)) 7 rfl hE578 (y_extract rfl rfl) rfl (by kernel_rfl) (by kernel_rfl) (by kernel_rfl) rfl rfl (fun _ _ _ h => h) ?_; intro a579 hE580; clear hE578
                      refine d_pure (v := .slice b571 (((F_GreatestSimulation mp0 mp1 mp2 np0 np1 np2).1).length) c572) 8 rfl hE580 (y_assign rfl) rfl (by kernel_rfl) (by kernel_rfl) (by kernel_rfl) rfl rfl (fun _ _ _ h => h) ?_; intro a581 hE582; clear hE580
                      refine d_pure (v := .int .i64 ((F_GreatestSimulation mp0 mp1 mp2 np0 np1 np2).2)) 9 rfl hE582 (y_assign rfl) rfl (by kernel_rfl) (by kernel_rfl) (by kernel_rfl) rfl rfl (fun _ _ _ h => h) ?_; intro a583 hE584; clear hE582
                      refine d_done (by kernel_rfl) ?_
                      have hE585 := hE584.sub (L' := [(6, .slice b114 (((F_s_GreatestSimulation mp0 mp1 mp2 np0 np1 np2).1).length) c115), (7, .int .i64 ((F_s_GreatestSimulation mp0 mp1 mp2 np0 np1 np2).2)), (10, .slice b192 (((F_GreatestSimulation mp0 mp1 mp2 np0 np1 np2).1).length) c193), (13, .int .i64 (1 + (((F_GreatestSimulation mp0 mp1 mp2 np0 np1 np2).1).length : Int))), (15, .slice b571 (((F_GreatestSimulation mp0 mp1 mp2 np0 np1 np2).1).length) c572), (16, .int .i64 ((F_GreatestSimulation mp0 mp1 mp2 np0 np1 np2).2))]) ⟨rfl, rfl, rfl, rfl, rfl, rfl, trivial⟩; clear hE584
                      refine p_tn ?_
                      refine c_seq ?_
                      refine c_cut (fun a' w' => E a' 119 [(10, .slice b192 (((F_GreatestSimulation mp0 mp1 mp2 np0 np1 np2).1).length) c193), (13, .int .i64 (1 + (((F_GreatestSimulation mp0 mp1 mp2 np0 np1 np2).1).length : Int))), (110, .bool ((!(decide (((F_GreatestSimulation mp0 mp1 mp2 np0 np1 np2).1) = ((F_s_GreatestSimulation mp0 mp1 mp2 np0 np1 np2).1)))) || (!decide (((F_GreatestSimulation mp0 mp1 mp2 np0 np1 np2).2) = ((F_s_GreatestSimulation mp0 mp1 mp2 np0 np1 np2).2)))))] ∧ St w w' [.own 2 1 b571 (((F_GreatestSimulation mp0 mp1 mp2 np0 np1 np2).1).length) c572 ((F_GreatestSimulation mp0 mp1 mp2 np0 np1 np2).1), .own 2 1 b559 ((np1).length) c560 np1, .own 2 1 b561 ((np2).length) c562 np2, .own 2 1 b547 ((mp1).length) c548 mp1, .own 2 1 b549 ((mp2).length) c550 mp2, .own 2 1 b192 (((F_GreatestSimulation mp0 mp1 mp2 np0 np1 np2).1).length) c193 (marked ((F_GreatestSimulation mp0 mp1 mp2 np0 np1 np2).1).length 1), .own 2 1 b165 ((np2).length) c166 (marked np2.length ((1 + (mp1.length : Int) + (mp2.length : Int)) + (np1.length : Int))), .own 2 1 b163 ((np1).length) c164 (marked np1.length (1 + (mp1.length : Int) + (mp2.length : Int))), .own 2 1 b138 ((mp2).length) c139 (marked mp2.length (1 + (mp1.length : Int))), .own 2 1 b136 ((mp1).length) c137 (marked mp1.length 1), .own 2 1 b317 ((np1).length) c318 np1, .own 2 1 b319 ((np2).length) c320 np2, .own 2 1 b279 ((mp1).length) c280 mp1, .own 2 1 b281 ((mp2).length) c282 mp2, .blk b169 #[.int .i64 np0, .slice b163 ((np1).length) c164, .slice b165 ((np2).length) c166] 38, .blk b142 #[.int .i64 mp0, .slice b136 ((mp1).length) c137, .slice b138 ((mp2).length) c139] 38, .own 2 1 b114 (((F_s_GreatestSimulation mp0 mp1 mp2 np0 np1 np2).1).length) c115 ((F_s_GreatestSimulation mp0 mp1 mp2 np0 np1 np2).1), .own 2 1 b102 ((np1).length) c103 np1, .own 2 1 b104 ((np2).length) c105 np2, .own 2 1 b90 ((mp1).length) c91 mp1, .own 2 1 b92 ((mp2).length) c93 mp2, .rd 1 np1A np1.length np1C np1, .rd 1 np2A np2.length np2C np2, .blk b11 #[.int .i64 np0, .slice np1A np1.length np1C, .slice np2A np2.length np2C] 35, .rd 1 mp1A mp1.length mp1C mp1, .rd 1 mp2A mp2.length mp2C mp2, .blk b5 #[.int .i64 mp0, .slice mp1A mp1.length mp1C, .slice mp2A mp2.length mp2C] 35]) ?_ ?_
                      ·
                        refine c_reg ?_
                        refine q_step (v := .slice b571 (((F_GreatestSimulation mp0 mp1 mp2 np0 np1 np2).1).length) c572) hE585 (y_move rfl) rfl rfl rfl ?_; intro a586 hE587; clear hE585
                        refine q_step (v := .slice b114 (((F_s_GreatestSimulation mp0 mp1 mp2 np0 np1 np2).1).length) c115) hE587 (y_move rfl) rfl rfl rfl ?_; intro a588 hE589; clear hE587
                        refine l_step hE589 rfl (l_call (f := 21) (argv := [.slice b571 (((F_GreatestSimulation mp0 mp1 mp2 np0 np1 np2).1).length) c572, .slice b114 (((F_s_GreatestSimulation mp0 mp1 mp2 np0 np1 np2).1).length) c115]) hE589 (fun _ => cf_l_eqInt64S _ _) rfl rfl (d_l_eqInt64S b571 (((F_GreatestSimulation mp0 mp1 mp2 np0 np1 np2).1).length) c572 ((F_GreatestSimulation mp0 mp1 mp2 np0 np1 np2).1) b114 (((F_s_GreatestSimulation mp0 mp1 mp2 np0 np1 np2).1).length) c115 ((F_s_GreatestSimulation mp0 mp1 mp2 np0 np1 np2).1) w566 (St.rdO (i := 0) hS569 rfl) (St.rdO (i := 16) hS569 rfl)) ?_)
                        rintro _ w591 ⟨rfl, he595⟩ a592 hE593; clear hE589
                        have hS594 := St.go hS569 he595; clear hS569
                        refine q_step (v := .bool (!(decide (((F_GreatestSimulation mp0 mp1 mp2 np0 np1 np2).1) = ((F_s_GreatestSimulation mp0 mp1 mp2 np0 np1 np2).1))))) hE593 (y_not rfl) rfl rfl rfl ?_; intro a596 hE597; clear hE593
                        refine q_step (v := .bool (!(decide (((F_GreatestSimulation mp0 mp1 mp2 np0 np1 np2).1) = ((F_s_GreatestSimulation mp0 mp1 mp2 np0 np1 np2).1))))) hE597 (y_move rfl) rfl rfl rfl ?_; intro a598 hE599; clear hE597
                        rcases Bool.eq_false_or_eq_true (!(decide (((F_GreatestSimulation mp0 mp1 mp2 np0 np1 np2).1) = ((F_s_GreatestSimulation mp0 mp1 mp2 np0 np1 np2).1)))) with hb600 | hb600
                        ·
                          have hE601 := hE599; rw [hb600] at hE601; clear hE599
                          have ht602 := bn_t hb600
                          have hp603 := of_decide_eq_false ht602
                          refine q_skip hE601 rfl rfl rfl ?_; intro a604 hE605; clear hE601
                          refine q_skip hE605 rfl rfl rfl ?_; intro a606 hE607; clear hE605
                          refine q_skip hE607 rfl rfl rfl ?_; intro a608 hE609; clear hE607
                          refine q_step (v := .bool true) hE609 (y_pick (b := true) rfl rfl) rfl rfl rfl ?_; intro a610 hE611; clear hE609
                          refine c_nil ?_
                          have hE612 := hE611.sub (L' := [(10, .slice b192 (((F_GreatestSimulation mp0 mp1 mp2 np0 np1 np2).1).length) c193), (13, .int .i64 (1 + (((F_GreatestSimulation mp0 mp1 mp2 np0 np1 np2).1).length : Int))), (110, .bool true)]) ⟨rfl, rfl, rfl, trivial⟩; clear hE611
                          refine p_tn ?_
                          have hE613 := hE612.sub (L' := [(10, .slice b192 (((F_GreatestSimulation mp0 mp1 mp2 np0 np1 np2).1).length) c193), (13, .int .i64 (1 + (((F_GreatestSimulation mp0 mp1 mp2 np0 np1 np2).1).length : Int))), (110, .bool true)]) ⟨rfl, rfl, rfl, trivial⟩
                          have hS614 := (St.pick (Γ' := [.own 2 1 b571 (((F_GreatestSimulation mp0 mp1 mp2 np0 np1 np2).1).length) c572 ((F_GreatestSimulation mp0 mp1 mp2 np0 np1 np2).1), .own 2 1 b559 ((np1).length) c560 np1, .own 2 1 b561 ((np2).length) c562 np2, .own 2 1 b547 ((mp1).length) c548 mp1, .own 2 1 b549 ((mp2).length) c550 mp2, .own 2 1 b192 (((F_GreatestSimulation mp0 mp1 mp2 np0 np1 np2).1).length) c193 (marked ((F_GreatestSimulation mp0 mp1 mp2 np0 np1 np2).1).length 1), .own 2 1 b165 ((np2).length) c166 (marked np2.length ((1 + (mp1.length : Int) + (mp2.length : Int)) + (np1.length : Int))), .own 2 1 b163 ((np1).length) c164 (marked np1.length (1 + (mp1.length : Int) + (mp2.length : Int))), .own 2 1 b138 ((mp2).length) c139 (marked mp2.length (1 + (mp1.length : Int))), .own 2 1 b136 ((mp1).length) c137 (marked mp1.length 1), .own 2 1 b317 ((np1).length) c318 np1, .own 2 1 b319 ((np2).length) c320 np2, .own 2 1 b279 ((mp1).length) c280 mp1, .own 2 1 b281 ((mp2).length) c282 mp2, .blk b169 #[.int .i64 np0, .slice b163 ((np1).length) c164, .slice b165 ((np2).length) c166] 38, .blk b142 #[.int .i64 mp0, .slice b136 ((mp1).length) c137, .slice b138 ((mp2).length) c139] 38, .own 2 1 b114 (((F_s_GreatestSimulation mp0 mp1 mp2 np0 np1 np2).1).length) c115 ((F_s_GreatestSimulation mp0 mp1 mp2 np0 np1 np2).1), .own 2 1 b102 ((np1).length) c103 np1, .own 2 1 b104 ((np2).length) c105 np2, .own 2 1 b90 ((mp1).length) c91 mp1, .own 2 1 b92 ((mp2).length) c93 mp2, .rd 1 np1A np1.length np1C np1, .rd 1 np2A np2.length np2C np2, .blk b11 #[.int .i64 np0, .slice np1A np1.length np1C, .slice np2A np2.length np2C] 35, .rd 1 mp1A mp1.length mp1C mp1, .rd 1 mp2A mp2.length mp2C mp2, .blk b5 #[.int .i64 mp0, .slice mp1A mp1.length mp1C, .slice mp2A mp2.length mp2C] 35]) hS594 [0, 1, 2, 3, 4, 5, 6, 7, 8, 9, 10, 11, 12, 13, 14, 15, 16, 17, 18, 19, 20, 21, 22, 23, 24, 25, 26] (by decide) rfl)
                          exact ⟨(by rw [hb600]; exact hE613), hS614⟩
                        ·
                          have hE615 := hE599; rw [hb600] at hE615; clear hE599
                          have ht616 := bn_f hb600
                          have hp617 := of_decide_eq_true ht616
                          refine q_step (v := .int .i64 ((F_GreatestSimulation mp0 mp1 mp2 np0 np1 np2).2)) hE615 (y_move rfl) rfl rfl rfl ?_; intro a618 hE619; clear hE615
                          refine q_step (v := .int .i64 ((F_s_GreatestSimulation mp0 mp1 mp2 np0 np1 np2).2)) hE619 (y_move rfl) rfl rfl rfl ?_; intro a620 hE621; clear hE619
                          refine q_step (v := .bool (!decide (((F_GreatestSimulation mp0 mp1 mp2 np0 np1 np2).2) = ((F_s_GreatestSimulation mp0 mp1 mp2 np0 np1 np2).2)))) hE621 (y_neq rfl rfl) rfl rfl rfl ?_; intro a622 hE623; clear hE621
                          refine q_step (v := .bool (!decide (((F_GreatestSimulation mp0 mp1 mp2 np0 np1 np2).2) = ((F_s_GreatestSimulation mp0 mp1 mp2 np0 np1 np2).2)))) hE623 (y_pick (b := false) rfl rfl) rfl rfl rfl ?_; intro a624 hE625; clear hE623
                          refine c_nil ?_
                          have hE626 := hE625.sub (L' := [(10, .slice b192 (((F_GreatestSimulation mp0 mp1 mp2 np0 np1 np2).1).length) c193), (13, .int .i64 (1 + (((F_GreatestSimulation mp0 mp1 mp2 np0 np1 np2).1).length : Int))), (110, .bool (!decide (((F_GreatestSimulation mp0 mp1 mp2 np0 np1 np2).2) = ((F_s_GreatestSimulation mp0 mp1 mp2 np0 np1 np2).2))))]) ⟨rfl, rfl, rfl, trivial⟩; clear hE625
                          refine p_tn ?_
                          have hE627 := hE626.sub (L' := [(10, .slice b192 (((F_GreatestSimulation mp0 mp1 mp2 np0 np1 np2).1).length) c193), (13, .int .i64 (1 + (((F_GreatestSimulation mp0 mp1 mp2 np0 np1 np2).1).length : Int))), (110, .bool (!decide (((F_GreatestSimulation mp0 mp1 mp2 np0 np1 np2).2) = ((F_s_GreatestSimulation mp0 mp1 mp2 np0 np1 np2).2))))]) ⟨rfl, rfl, rfl, trivial⟩
                          have hS628 := (St.pick (Γ' := [.own 2 1 b571 (((F_GreatestSimulation mp0 mp1 mp2 np0 np1 np2).1).length) c572 ((F_GreatestSimulation mp0 mp1 mp2 np0 np1 np2).1), .own 2 1 b559 ((np1).length) c560 np1, .own 2 1 b561 ((np2).length) c562 np2, .own 2 1 b547 ((mp1).length) c548 mp1, .own 2 1 b549 ((mp2).length) c550 mp2, .own 2 1 b192 (((F_GreatestSimulation mp0 mp1 mp2 np0 np1 np2).1).length) c193 (marked ((F_GreatestSimulation mp0 mp1 mp2 np0 np1 np2).1).length 1), .own 2 1 b165 ((np2).length) c166 (marked np2.length ((1 + (mp1.length : Int) + (mp2.length : Int)) + (np1.length : Int))), .own 2 1 b163 ((np1).length) c164 (marked np1.length (1 + (mp1.length : Int) + (mp2.length : Int))), .own 2 1 b138 ((mp2).length) c139 (marked mp2.length (1 + (mp1.length : Int))), .own 2 1 b136 ((mp1).length) c137 (marked mp1.length 1), .own 2 1 b317 ((np1).length) c318 np1, .own 2 1 b319 ((np2).length) c320 np2, .own 2 1 b279 ((mp1).length) c280 mp1, .own 2 1 b281 ((mp2).length) c282 mp2, .blk b169 #[.int .i64 np0, .slice b163 ((np1).length) c164, .slice b165 ((np2).length) c166] 38, .blk b142 #[.int .i64 mp0, .slice b136 ((mp1).length) c137, .slice b138 ((mp2).length) c139] 38, .own 2 1 b114 (((F_s_GreatestSimulation mp0 mp1 mp2 np0 np1 np2).1).length) c115 ((F_s_GreatestSimulation mp0 mp1 mp2 np0 np1 np2).1), .own 2 1 b102 ((np1).length) c103 np1, .own 2 1 b104 ((np2).length) c105 np2, .own 2 1 b90 ((mp1).length) c91 mp1, .own 2 1 b92 ((mp2).length) c93 mp2, .rd 1 np1A np1.length np1C np1, .rd 1 np2A np2.length np2C np2, .blk b11 #[.int .i64 np0, .slice np1A np1.length np1C, .slice np2A np2.length np2C] 35, .rd 1 mp1A mp1.length mp1C mp1, .rd 1 mp2A mp2.length mp2C mp2, .blk b5 #[.int .i64 mp0, .slice mp1A mp1.length mp1C, .slice mp2A mp2.length mp2C] 35]) hS594 [0, 1, 2, 3, 4, 5, 6, 7, 8, 9, 10, 11, 12, 13, 14, 15, 16, 17, 18, 19, 20, 21, 22, 23, 24, 25, 26] (by decide) rfl)
                          exact ⟨(by rw [hb600]; exact hE627), hS628⟩
                      ·
                        rintro a629 w630 ⟨hE631, hS632⟩; clear hE585 hS569
                        have hE633 := hE631; rw [ht254] at hE633; clear hE631
                        refine c_false hE633 rfl ?_
                        refine wp_skip ?_
                        refine p_tn ?_
                        refine c_seq ?_
                        refine c_reg ?_
                        refine q_step (v := .int .i64 1) hE633 (y_assign rfl) rfl rfl rfl ?_; intro a634 hE635; clear hE633
                        refine c_nil ?_
                        have hE636 := hE635.sub (L' := [(10, .slice b192 (((F_GreatestSimulation mp0 mp1 mp2 np0 np1 np2).1).length) c193), (13, .int .i64 (1 + (((F_GreatestSimulation mp0 mp1 mp2 np0 np1 np2).1).length : Int))), (14, .int .i64 1)]) ⟨rfl, rfl, rfl, trivial⟩; clear hE635
                        refine p_tn ?_
                        refine c_seq ?_
                        refine c_reg ?_
                        refine q_step (v := .slice b192 (((F_GreatestSimulation mp0 mp1 mp2 np0 np1 np2).1).length) c193) hE636 (y_move rfl) rfl rfl rfl ?_; intro a637 hE638; clear hE636
                        refine q_step (v := .int .i64 1) hE638 (y_move rfl) rfl rfl rfl ?_; intro a639 hE640; clear hE638
                        refine l_step hE640 rfl (l_call (f := 45) (argv := [.slice b192 (((F_GreatestSimulation mp0 mp1 mp2 np0 np1 np2).1).length) c193, .int .i64 1]) hE640 (fun _ => cf_l_heldInt64S _ _) rfl rfl (c_l_heldInt64S b192 (((F_GreatestSimulation mp0 mp1 mp2 np0 np1 np2).1).length) c193 (marked ((F_GreatestSimulation mp0 mp1 mp2 np0 np1 np2).1).length 1) 1 w630 (St.rdO (i := 5) hS632 rfl) (by first | omega | (simp only [marked_len]; omega)) (by first | omega | (simp only [marked_len]; omega)) (by first | omega | (simp only [marked_len]; omega))) ?_)
                        rintro _ w642 ⟨rfl, he646⟩ a643 hE644; clear hE640
                        have hS645 := St.go hS632 he646; clear hS632
                        refine q_step (v := .int .i64 (F_l_heldInt64S (marked ((F_GreatestSimulation mp0 mp1 mp2 np0 np1 np2).1).length 1) 1)) hE644 (y_assign rfl) rfl rfl rfl ?_; intro a647 hE648; clear hE644
                        refine c_nil ?_
                        have hE649 := hE648.sub (L' := [(13, .int .i64 (1 + (((F_GreatestSimulation mp0 mp1 mp2 np0 np1 np2).1).length : Int))), (14, .int .i64 (F_l_heldInt64S (marked ((F_GreatestSimulation mp0 mp1 mp2 np0 np1 np2).1).length 1) 1))]) ⟨rfl, rfl, trivial⟩; clear hE648
                        refine p_tn ?_
                        refine c_seq ?_
                        refine c_seq ?_
                        refine c_reg ?_
                        refine q_step (v := .int .i64 (F_l_heldInt64S (marked ((F_GreatestSimulation mp0 mp1 mp2 np0 np1 np2).1).length 1) 1)) hE649 (y_move rfl) rfl rfl rfl ?_; intro a650 hE651; clear hE649
                        refine q_step (v := .bool (decide ((F_l_heldInt64S (marked ((F_GreatestSimulation mp0 mp1 mp2 np0 np1 np2).1).length 1) 1) < 0))) hE651 (y_lss rfl rfl) rfl rfl rfl ?_; intro a652 hE653; clear hE651
                        refine c_nil ?_
                        have hE654 := hE653.sub (L' := [(13, .int .i64 (1 + (((F_GreatestSimulation mp0 mp1 mp2 np0 np1 np2).1).length : Int))), (14, .int .i64 (F_l_heldInt64S (marked ((F_GreatestSimulation mp0 mp1 mp2 np0 np1 np2).1).length 1) 1)), (115, .bool (decide ((F_l_heldInt64S (marked ((F_GreatestSimulation mp0 mp1 mp2 np0 np1 np2).1).length 1) 1) < 0)))]) ⟨rfl, rfl, rfl, trivial⟩; clear hE653
                        refine p_tn ?_
                        have hE655 := hE654; rw [ht509] at hE655; clear hE654
                        refine c_false hE655 rfl ?_
                        refine wp_skip ?_
                        refine p_tn ?_
                        refine c_seq ?_
                        refine c_seq ?_
                        refine c_reg ?_
                        refine q_step (v := .int .i64 (F_l_heldInt64S (marked ((F_GreatestSimulation mp0 mp1 mp2 np0 np1 np2).1).length 1) 1)) hE655 (y_move rfl) rfl rfl rfl ?_; intro a656 hE657; clear hE655
                        refine q_step (v := .int .i64 (1 + (((F_GreatestSimulation mp0 mp1 mp2 np0 np1 np2).1).length : Int))) hE657 (y_move rfl) rfl rfl rfl ?_; intro a658 hE659; clear hE657
                        refine q_step (v := .bool (!decide ((F_l_heldInt64S (marked ((F_GreatestSimulation mp0 mp1 mp2 np0 np1 np2).1).length 1) 1) = (1 + (((F_GreatestSimulation mp0 mp1 mp2 np0 np1 np2).1).length : Int))))) hE659 (y_neq rfl rfl) rfl rfl rfl ?_; intro a660 hE661; clear hE659
                        refine c_nil ?_
                        have hE662 := hE661.sub (L' := [(118, .bool (!decide ((F_l_heldInt64S (marked ((F_GreatestSimulation mp0 mp1 mp2 np0 np1 np2).1).length 1) 1) = (1 + (((F_GreatestSimulation mp0 mp1 mp2 np0 np1 np2).1).length : Int)))))]) ⟨rfl, trivial⟩; clear hE661
                        refine p_tn ?_
                        have hE663 := hE662; rw [ht524] at hE663; clear hE662
                        refine c_false hE663 rfl ?_
                        refine wp_skip ?_
                        refine p_tn ?_
                        refine c_seq ?_
                        refine c_reg ?_
                        refine q_step (v := .bool true) hE663 (y_assign rfl) rfl rfl rfl ?_; intro a664 hE665; clear hE663
                        refine c_nil ?_
                        have hE666 := hE665.sub (L' := [(4, .bool true)]) ⟨rfl, trivial⟩; clear hE665
                        refine p_tn ?_
                        refine wp_ret ?_
                        have hF : F_l_FnExactGreatestSimulation mp0 mp1 mp2 np0 np1 np2 = true := by unfold F_l_FnExactGreatestSimulation; rw [ht524, ht509, ht456, ht332, ht294, ht254, ht68, ht41]; first | done | rfl
                        refine c_ret1 hE666 rfl rfl ?_
                        exact ⟨(by rw [hF]; first | done | rfl), hS645.ext⟩

theorem FnExactGreatestSimulation_true (mp0 : Int) (mp1 mp2 : List Int) (np0 : Int) (np1 np2 : List Int) : F_l_FnExactGreatestSimulation mp0 mp1 mp2 np0 np1 np2 = true := by
  unfold F_l_FnExactGreatestSimulation
  rw [(GreatestSimulation_eq mp0 mp1 mp2 np0 np1 np2).1, heldI_eq]
  have h1 : decide (1 + (mp1.length : Int) + (mp2.length : Int) + (np1.length : Int) + (np2.length : Int) < 0) = false := decide_eq_false (by omega)
  have h2 : decide ((1 : Int) + ((F_s_GreatestSimulation mp0 mp1 mp2 np0 np1 np2).1.length : Int) < 0) = false := decide_eq_false (by omega)
  simp [h1, h2]

end Go.Proofs.Ytejfjcjdilbkdaa
