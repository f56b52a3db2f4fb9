/- GLBG: models and contracts, printed by wip/gen/gen.py -/
import Derived.Test.YtlbonhloeefnmaaGAM
import Derived.Test.YtlbonhloeefnmaaGBG
set_option linter.unusedVariables false
set_option linter.unusedSimpArgs false
namespace Go.Proofs.Ytlbonhloeefnmaa
open Go.RowKit

def F_l_FnExactGreatestBisimulation (mp0 : Int) (mp1 : List Int) (mp2 : List Int) (np0 : Int) (np1 : List Int) (np2 : List Int) : Bool :=
  bif (decide ((F_l_szModel mp0 mp1 mp2 1048576) < 0)) then true else (bif (decide ((F_l_szModel np0 np1 np2 (F_l_szModel mp0 mp1 mp2 1048576)) < 0)) then true else (bif ((!(decide (((F_GreatestBisimulation mp0 mp1 mp2 np0 np1 np2).1) = ((F_s_GreatestBisimulation mp0 mp1 mp2 np0 np1 np2).1)))) || (!decide (((F_GreatestBisimulation mp0 mp1 mp2 np0 np1 np2).2) = ((F_s_GreatestBisimulation mp0 mp1 mp2 np0 np1 np2).2)))) then false else (bif (!(decide ((mp0, mp1, mp2) = (mp0, mp1, mp2)))) then false else (bif (!(decide ((np0, np1, np2) = (np0, np1, np2)))) then false else (bif ((decide (((1 + (mp1.length : Int) + (mp2.length : Int)) + (np1.length : Int) + (np2.length : Int)) < 0)) || ((!(decide (((F_GreatestBisimulation mp0 mp1 mp2 np0 np1 np2).1) = ((F_s_GreatestBisimulation mp0 mp1 mp2 np0 np1 np2).1)))) || (!decide (((F_GreatestBisimulation mp0 mp1 mp2 np0 np1 np2).2) = ((F_s_GreatestBisimulation mp0 mp1 mp2 np0 np1 np2).2))))) then false else (bif (decide ((F_l_heldInt64S (marked ((F_GreatestBisimulation mp0 mp1 mp2 np0 np1 np2).1).length 1) 1) < 0)) then false else (bif (!decide ((F_l_heldInt64S (marked ((F_GreatestBisimulation mp0 mp1 mp2 np0 np1 np2).1).length 1) 1) = (1 + (((F_GreatestBisimulation mp0 mp1 mp2 np0 np1 np2).1).length : Int)))) then false else true)))))))
theorem cf_l_FnExactGreatestBisimulation (args : Array Value) (w : World) : (callFunc 3 args).run Try.prog w = .ok (.enter 3 args) w := by kernel_rfl
set_option maxRecDepth 100000 in
theorem c_l_FnExactGreatestBisimulation (mp0 : Int) (mp1A : Option Addr) (mp1N mp1C : Nat) (mp1 : List Int) (mp2A : Option Addr) (mp2N mp2C : Nat) (mp2 : List Int) (np0 : Int) (np1A : Option Addr) (np1N np1C : Nat) (np1 : List Int) (np2A : Option Addr) (np2N np2C : Nat) (np2 : List Int) (w : World) (mp1R : RdS w 1 mp1A mp1N mp1C mp1) (mp2R : RdS w 1 mp2A mp2N mp2C mp2) (np1R : RdS w 1 np1A np1N np1C np1) (np2R : RdS w 1 np2A np2N np2C np2) :
    Calls Try.prog 3 #[.agg #[.int .i64 mp0, .slice mp1A mp1N mp1C, .slice mp2A mp2N mp2C], .agg #[.int .i64 np0, .slice np1A np1N np1C, .slice np2A np2N np2C]] w (Ret fun v w' => v = .bool (F_l_FnExactGreatestBisimulation mp0 mp1 mp2 np0 np1 np2) ∧ Ext w w') := by
  obtain rfl : mp1N = mp1.length := mp1R.len1.symm
  have mp1Le := mp1R.le
  obtain rfl : mp2N = mp2.length := mp2R.len1.symm
  have mp2Le := mp2R.le
  obtain rfl : np1N = np1.length := np1R.len1.symm
  have np1Le := np1R.le
  obtain rfl : np2N = np2.length := np2R.len1.symm
  have np2Le := np2R.le
  have hS := St.nil w
  have hS1 := St.rd0 hS rfl mp1R; clear hS
  have hS2 := St.rd0 hS1 rfl mp2R; clear hS1
  have hS3 := St.rd0 hS2 rfl np1R; clear hS2
  have hS4 := St.rd0 hS3 rfl np2R; clear hS3
  refine enter (args := [.agg #[.int .i64 mp0, .slice mp1A mp1.length mp1C, .slice mp2A mp2.length mp2C], .agg #[.int .i64 np0, .slice np1A np1.length np1C, .slice np2A np2.length np2C]]) Try.func3 rfl rfl ?_
  rw [Try.ntmps3]; intro a hE
  have hE := hE.sub (L' := [(0, .agg #[.int .i64 mp0, .slice mp1A mp1.length mp1C, .slice mp2A mp2.length mp2C]), (1, .agg #[.int .i64 np0, .slice np1A np1.length np1C, .slice np2A np2.length np2C])]) ⟨rfl, rfl, trivial⟩
  refine c_seq ?_
  refine c_reg ?_
  refine l_step hE rfl (l_box (v := .agg #[.int .i64 mp0, .slice mp1A mp1.length mp1C, .slice mp2A mp2.length mp2C]) (cs := #[.int .i64 mp0, .slice mp1A mp1.length mp1C, .slice mp2A mp2.length mp2C]) hS4 hE rfl rfl rfl ?_)
  intro b5 w6 hS9 he10 a7 hE8; clear hS4 hE
  refine l_step hE8 rfl (l_box (v := .agg #[.int .i64 np0, .slice np1A np1.length np1C, .slice np2A np2.length np2C]) (cs := #[.int .i64 np0, .slice np1A np1.length np1C, .slice np2A np2.length np2C]) hS9 hE8 rfl rfl rfl ?_)
  intro b11 w12 hS15 he16 a13 hE14; clear hS9 hE8
  refine q_step (v := .bool false) hE14 (y_assign rfl) rfl rfl rfl ?_; intro a17 hE18; clear hE14
  refine c_nil ?_
  have hE19 := hE18.sub (L' := [(2, .pointer (some ⟨b5, 0, none⟩)), (3, .pointer (some ⟨b11, 0, none⟩))]) ⟨rfl, rfl, trivial⟩; clear hE18
  refine p_tn ?_
  refine c_seq ?_
  refine c_reg ?_
  refine q_step (v := .int .i64 1048576) hE19 (y_assign rfl) rfl rfl rfl ?_; intro a20 hE21; clear hE19
  refine c_nil ?_
  have hE22 := hE21.sub (L' := [(2, .pointer (some ⟨b5, 0, none⟩)), (3, .pointer (some ⟨b11, 0, none⟩)), (5, .int .i64 1048576)]) ⟨rfl, rfl, rfl, trivial⟩; clear hE21
  refine p_tn ?_
  refine c_seq ?_
  refine c_reg ?_
  refine q_step (v := .agg #[.int .i64 mp0, .slice mp1A mp1.length mp1C, .slice mp2A mp2.length mp2C]) hE22 (y_loadS Try.underlying26 rfl (by kernel_rfl) rfl (St.row (i := 1) hS15 rfl)) rfl rfl rfl ?_; intro a23 hE24; clear hE22
  refine q_step (v := .int .i64 1048576) hE24 (y_move rfl) rfl rfl rfl ?_; intro a25 hE26; clear hE24
  refine l_step hE26 rfl (l_call (f := 15) (argv := [.agg #[.int .i64 mp0, .slice mp1A mp1.length mp1C, .slice mp2A mp2.length mp2C], .int .i64 1048576]) hE26 (fun _ => cf_l_szModel _ _) rfl rfl (c_l_szModel mp0 mp1A mp1.length mp1C mp1 mp2A mp2.length mp2C mp2 1048576 w12 (St.rdR (i := 5) hS15 rfl) (St.rdR (i := 4) hS15 rfl) (by first | omega | (simp only [marked_len]; omega) | (simp only [marked_len] at *; omega)) (by first | omega | (simp only [marked_len]; omega) | (simp only [marked_len] at *; omega))) ?_)
  rintro _ w28 ⟨rfl, he32⟩ a29 hE30; clear hE26
  have hS31 := St.go hS15 he32; clear hS15
  refine q_step (v := .int .i64 (F_l_szModel mp0 mp1 mp2 1048576)) hE30 (y_assign rfl) rfl rfl rfl ?_; intro a33 hE34; clear hE30
  refine c_nil ?_
  have hE35 := hE34.sub (L' := [(2, .pointer (some ⟨b5, 0, none⟩)), (3, .pointer (some ⟨b11, 0, none⟩)), (5, .int .i64 (F_l_szModel mp0 mp1 mp2 1048576))]) ⟨rfl, rfl, rfl, trivial⟩; clear hE34
  refine p_tn ?_
  refine c_seq ?_
  refine c_seq ?_
  refine c_reg ?_
  refine q_step (v := .int .i64 (F_l_szModel mp0 mp1 mp2 1048576)) hE35 (y_move rfl) rfl rfl rfl ?_; intro a36 hE37; clear hE35
  refine q_step (v := .bool (decide ((F_l_szModel mp0 mp1 mp2 1048576) < 0))) hE37 (y_lss rfl rfl) rfl rfl rfl ?_; intro a38 hE39; clear hE37
  refine c_nil ?_
  have hE40 := hE39.sub (L' := [(2, .pointer (some ⟨b5, 0, none⟩)), (3, .pointer (some ⟨b11, 0, none⟩)), (5, .int .i64 (F_l_szModel mp0 mp1 mp2 1048576)), (21, .bool (decide ((F_l_szModel mp0 mp1 mp2 1048576) < 0)))]) ⟨rfl, rfl, rfl, rfl, trivial⟩; clear hE39
  refine p_tn ?_
  refine c_cond hE40 rfl (fun ht41 => ?_) (fun ht41 => ?_)
  ·
    have hp42 := of_decide_eq_true ht41
    have hE43 := hE40; rw [ht41] at hE43; clear hE40
    refine c_seq ?_
    refine c_reg ?_
    refine q_step (v := .bool true) hE43 (y_assign rfl) rfl rfl rfl ?_; intro a44 hE45; clear hE43
    refine c_nil ?_
    have hE46 := hE45.sub (L' := [(4, .bool true)]) ⟨rfl, trivial⟩; clear hE45
    refine p_tn ?_
    refine wp_ret ?_
    refine p_tr ?_
    have hF : F_l_FnExactGreatestBisimulation mp0 mp1 mp2 np0 np1 np2 = true := by unfold F_l_FnExactGreatestBisimulation; rw [ht41]; first | done | rfl
    refine c_ret1 hE46 rfl rfl ?_
    exact ⟨(by rw [hF]; first | done | (dsimp only; done) | rfl), hS31.ext⟩
  ·
    have hp47 := of_decide_eq_false ht41
    have hq48 := szModel_bound hp47
    have hE49 := hE40; rw [ht41] at hE49; clear hE40
    refine wp_skip ?_
    refine p_tn ?_
    refine c_seq ?_
    refine c_reg ?_
    refine q_step (v := .agg #[.int .i64 np0, .slice np1A np1.length np1C, .slice np2A np2.length np2C]) hE49 (y_loadS Try.underlying26 rfl (by kernel_rfl) rfl (St.row (i := 0) hS31 rfl)) rfl rfl rfl ?_; intro a50 hE51; clear hE49
    refine q_step (v := .int .i64 (F_l_szModel mp0 mp1 mp2 1048576)) hE51 (y_move rfl) rfl rfl rfl ?_; intro a52 hE53; clear hE51
    refine l_step hE53 rfl (l_call (f := 15) (argv := [.agg #[.int .i64 np0, .slice np1A np1.length np1C, .slice np2A np2.length np2C], .int .i64 (F_l_szModel mp0 mp1 mp2 1048576)]) hE53 (fun _ => cf_l_szModel _ _) rfl rfl (c_l_szModel np0 np1A np1.length np1C np1 np2A np2.length np2C np2 (F_l_szModel mp0 mp1 mp2 1048576) w28 (St.rdR (i := 3) hS31 rfl) (St.rdR (i := 2) hS31 rfl) (by first | omega | (simp only [marked_len]; omega) | (simp only [marked_len] at *; omega)) (by first | omega | (simp only [marked_len]; omega) | (simp only [marked_len] at *; omega))) ?_)
    rintro _ w55 ⟨rfl, he59⟩ a56 hE57; clear hE53
    have hS58 := St.go hS31 he59; clear hS31
    refine q_step (v := .int .i64 (F_l_szModel np0 np1 np2 (F_l_szModel mp0 mp1 mp2 1048576))) hE57 (y_assign rfl) rfl rfl rfl ?_; intro a60 hE61; clear hE57
    refine c_nil ?_
    have hE62 := hE61.sub (L' := [(2, .pointer (some ⟨b5, 0, none⟩)), (3, .pointer (some ⟨b11, 0, none⟩)), (5, .int .i64 (F_l_szModel np0 np1 np2 (F_l_szModel mp0 mp1 mp2 1048576)))]) ⟨rfl, rfl, rfl, trivial⟩; clear hE61
    refine p_tn ?_
    refine c_seq ?_
    refine c_seq ?_
    refine c_reg ?_
    refine q_step (v := .int .i64 (F_l_szModel np0 np1 np2 (F_l_szModel mp0 mp1 mp2 1048576))) hE62 (y_move rfl) rfl rfl rfl ?_; intro a63 hE64; clear hE62
    refine q_step (v := .bool (decide ((F_l_szModel np0 np1 np2 (F_l_szModel mp0 mp1 mp2 1048576)) < 0))) hE64 (y_lss rfl rfl) rfl rfl rfl ?_; intro a65 hE66; clear hE64
    refine c_nil ?_
    have hE67 := hE66.sub (L' := [(2, .pointer (some ⟨b5, 0, none⟩)), (3, .pointer (some ⟨b11, 0, none⟩)), (26, .bool (decide ((F_l_szModel np0 np1 np2 (F_l_szModel mp0 mp1 mp2 1048576)) < 0)))]) ⟨rfl, rfl, rfl, trivial⟩; clear hE66
    refine p_tn ?_
    refine c_cond hE67 rfl (fun ht68 => ?_) (fun ht68 => ?_)
    ·
      have hp69 := of_decide_eq_true ht68
      have hE70 := hE67; rw [ht68] at hE70; clear hE67
      refine c_seq ?_
      refine c_reg ?_
      refine q_step (v := .bool true) hE70 (y_assign rfl) rfl rfl rfl ?_; intro a71 hE72; clear hE70
      refine c_nil ?_
      have hE73 := hE72.sub (L' := [(4, .bool true)]) ⟨rfl, trivial⟩; clear hE72
      refine p_tn ?_
      refine wp_ret ?_
      refine p_tr ?_
      have hF : F_l_FnExactGreatestBisimulation mp0 mp1 mp2 np0 np1 np2 = true := by unfold F_l_FnExactGreatestBisimulation; rw [ht68, ht41]; first | done | rfl
      refine c_ret1 hE73 rfl rfl ?_
      exact ⟨(by rw [hF]; first | done | (dsimp only; done) | rfl), hS58.ext⟩
    ·
      have hp74 := of_decide_eq_false ht68
      have hq75 := szModel_bound hp74
      have hE76 := hE67; rw [ht68] at hE76; clear hE67
      refine wp_skip ?_
      refine p_tn ?_
      refine c_seq ?_
      refine d_start (fun w w' => (fun w' => w'.heap[b5]? = some (.cells #[.int .i64 mp0, .slice mp1A mp1.length mp1C, .slice mp2A mp2.length mp2C] 26 (0, 0)) ∧ w'.heap[b11]? = some (.cells #[.int .i64 np0, .slice np1A np1.length np1C, .slice np2A np2.length np2C] 26 (0, 0)) ∧ True) w → (fun w' => w'.heap[b5]? = some (.cells #[.int .i64 mp0, .slice mp1A mp1.length mp1C, .slice mp2A mp2.length mp2C] 26 (0, 0)) ∧ w'.heap[b11]? = some (.cells #[.int .i64 np0, .slice np1A np1.length np1C, .slice np2A np2.length np2C] 26 (0, 0)) ∧ True) w') [0, 2] 10 (by kernel_rfl) rfl ?_
      intro w77 he78; have hS79 := St.go hS58 he78; clear hS58
      refine d_take (fun _ h => h) (fun _ _ h k => h k) (v := .agg #[.int .i64 mp0, .slice mp1A mp1.length mp1C, .slice mp2A mp2.length mp2C]) 0 rfl hE76 (S := fun w' => w'.heap[b5]? = some (.cells #[.int .i64 mp0, .slice mp1A mp1.length mp1C, .slice mp2A mp2.length mp2C] 26 (0, 0)) ∧ w'.heap[b11]? = some (.cells #[.int .i64 np0, .slice np1A np1.length np1C, .slice np2A np2.length np2C] 26 (0, 0)) ∧ True) ⟨(St.row (i := 1) hS79 rfl _ (Ext.refl _)), (St.row (i := 0) hS79 rfl _ (Ext.refl _)), trivial⟩ (y_loadS Try.underlying26 rfl (by kernel_rfl) rfl (fun _ h => h.1)) rfl rfl (by kernel_rfl) (by kernel_rfl) (by kernel_rfl) (by kernel_rfl) rfl rfl (fun _ _ _ h => h) ?_; intro a80 hE81; clear hE76
      refine d_take (fun _ h => h) (fun _ _ h k => h k) (v := .agg #[.int .i64 np0, .slice np1A np1.length np1C, .slice np2A np2.length np2C]) 2 rfl hE81 (S := fun w' => w'.heap[b5]? = some (.cells #[.int .i64 mp0, .slice mp1A mp1.length mp1C, .slice mp2A mp2.length mp2C] 26 (0, 0)) ∧ w'.heap[b11]? = some (.cells #[.int .i64 np0, .slice np1A np1.length np1C, .slice np2A np2.length np2C] 26 (0, 0)) ∧ True) ⟨(St.row (i := 1) hS79 rfl _ (Ext.refl _)), (St.row (i := 0) hS79 rfl _ (Ext.refl _)), trivial⟩ (y_loadS Try.underlying26 rfl (by kernel_rfl) rfl (fun _ h => h.2.1)) rfl rfl (by kernel_rfl) (by kernel_rfl) (by kernel_rfl) (by kernel_rfl) rfl rfl (fun _ _ _ h => h) ?_; intro a82 hE83; clear hE81
      refine d_only 1 (by kernel_rfl) rfl hE83 rfl (l_call (f := 17) (argv := [.agg #[.int .i64 mp0, .slice mp1A mp1.length mp1C, .slice mp2A mp2.length mp2C]]) hE83 (fun _ => cf_l_toModel _ _) rfl rfl (d_l_toModel mp0 mp1A mp1.length mp1C mp1 mp2A mp2.length mp2C mp2 w77 (St.rdR (i := 5) hS79 rfl) (St.rdR (i := 4) hS79 rfl) (by first | omega | (simp only [marked_len]; omega) | (simp only [marked_len] at *; omega)) (by first | omega | (simp only [marked_len]; omega) | (simp only [marked_len] at *; omega))) ?_)
      rintro _ w85 ⟨b90, c91, b92, c93, rfl, ho94, he89⟩ a86 hE87; clear hE83
      have hS88 := St.push2 hS79 he89 ho94; clear hS79
      refine ⟨fun _ _ => ⟨(St.row (i := 3) hS88 rfl _ (Ext.refl _)), (St.row (i := 2) hS88 rfl _ (Ext.refl _)), trivial⟩, ?_⟩
      refine d_only 3 (by kernel_rfl) rfl hE87 rfl (l_call (f := 17) (argv := [.agg #[.int .i64 np0, .slice np1A np1.length np1C, .slice np2A np2.length np2C]]) hE87 (fun _ => cf_l_toModel _ _) rfl rfl (d_l_toModel np0 np1A np1.length np1C np1 np2A np2.length np2C np2 w85 (St.rdR (i := 5) hS88 rfl) (St.rdR (i := 4) hS88 rfl) (by first | omega | (simp only [marked_len]; omega) | (simp only [marked_len] at *; omega)) (by first | omega | (simp only [marked_len]; omega) | (simp only [marked_len] at *; omega))) ?_)
      rintro _ w97 ⟨b102, c103, b104, c105, rfl, ho106, he101⟩ a98 hE99; clear hE87
      have hS100 := St.push2 hS88 he101 ho106; clear hS88
      refine ⟨fun h => Bool.noConfusion (h.symm.trans (show exm _ _ _ = true by kernel_rfl)), ?_⟩
      refine d_only 4 (by kernel_rfl) rfl hE99 rfl (l_call (f := 16) (argv := [.agg #[.int .i64 mp0, .slice b90 ((mp1).length) c91, .slice b92 ((mp2).length) c93], .agg #[.int .i64 np0, .slice b102 ((np1).length) c103, .slice b104 ((np2).length) c105]]) hE99 (fun _ => cf_s_GreatestBisimulation _ _) rfl rfl (c_s_GreatestBisimulation mp0 b90 ((mp1).length) c91 mp1 b92 ((mp2).length) c93 mp2 np0 b102 ((np1).length) c103 np1 b104 ((np2).length) c105 np2 w97 (St.rdO (i := 2) hS100 rfl) (St.rdO (i := 3) hS100 rfl) (St.rdO (i := 0) hS100 rfl) (St.rdO (i := 1) hS100 rfl)) ?_)
      rintro _ w109 ⟨b114, c115, rfl, ho116, he113⟩ a110 hE111; clear hE99
      have hS112 := St.own hS100 he113 ho116; clear hS100
      refine ⟨fun h => Bool.noConfusion (h.symm.trans (show exm _ _ _ = true by kernel_rfl)), ?_⟩
      refine d_pure (fun _ h => h) (v := .tuple #[.slice b114 (((F_s_GreatestBisimulation mp0 mp1 mp2 np0 np1 np2).1).length) c115, .int .i64 ((F_s_GreatestBisimulation mp0 mp1 mp2 np0 np1 np2).2)]) 5 rfl hE111 (y_move rfl) rfl (by kernel_rfl) (by kernel_rfl) (by kernel_rfl) rfl rfl (fun _ _ _ h => h) ?_; intro a117 hE118; clear hE111
      refine d_pure (fun _ h => h) (v := .slice b114 (((F_s_GreatestBisimulation mp0 mp1 mp2 np0 np1 np2).1).length) c115) 6 rfl hE118 (y_extract rfl rfl) rfl (by kernel_rfl) (by kernel_rfl) (by kernel_rfl) rfl rfl (fun _ _ _ h => h) ?_; intro a119 hE120; clear hE118
      refine d_pure (fun _ h => h) (v := .int .i64 ((F_s_GreatestBisimulation mp0 mp1 mp2 np0 np1 np2).2)) 7 rfl hE120 (y_extract rfl rfl) rfl (by kernel_rfl) (by kernel_rfl) (by kernel_rfl) rfl rfl (fun _ _ _ h => h) ?_; intro a121 hE122; clear hE120
      refine d_pure (fun _ h => h) (v := .slice b114 (((F_s_GreatestBisimulation mp0 mp1 mp2 np0 np1 np2).1).length) c115) 8 rfl hE122 (y_assign rfl) rfl (by kernel_rfl) (by kernel_rfl) (by kernel_rfl) rfl rfl (fun _ _ _ h => h) ?_; intro a123 hE124; clear hE122
      refine d_pure (fun _ h => h) (v := .int .i64 ((F_s_GreatestBisimulation mp0 mp1 mp2 np0 np1 np2).2)) 9 rfl hE124 (y_assign rfl) rfl (by kernel_rfl) (by kernel_rfl) (by kernel_rfl) rfl rfl (fun _ _ _ h => h) ?_; intro a125 hE126; clear hE124
      refine d_done (by kernel_rfl) ?_
      have hE127 := hE126.sub (L' := [(2, .pointer (some ⟨b5, 0, none⟩)), (3, .pointer (some ⟨b11, 0, none⟩)), (6, .slice b114 (((F_s_GreatestBisimulation mp0 mp1 mp2 np0 np1 np2).1).length) c115), (7, .int .i64 ((F_s_GreatestBisimulation mp0 mp1 mp2 np0 np1 np2).2))]) ⟨rfl, rfl, rfl, rfl, trivial⟩; clear hE126
      refine p_tn ?_
      refine c_seq ?_
      refine c_reg ?_
      refine q_step (v := .agg #[.int .i64 mp0, .slice mp1A mp1.length mp1C, .slice mp2A mp2.length mp2C]) hE127 (y_loadS Try.underlying26 rfl (by kernel_rfl) rfl (St.row (i := 6) hS112 rfl)) rfl rfl rfl ?_; intro a128 hE129; clear hE127
      refine l_step hE129 rfl (l_call (f := 17) (argv := [.agg #[.int .i64 mp0, .slice mp1A mp1.length mp1C, .slice mp2A mp2.length mp2C]]) hE129 (fun _ => cf_l_toModel _ _) rfl rfl (d_l_toModel mp0 mp1A mp1.length mp1C mp1 mp2A mp2.length mp2C mp2 w109 (St.rdR (i := 10) hS112 rfl) (St.rdR (i := 9) hS112 rfl) (by first | omega | (simp only [marked_len]; omega) | (simp only [marked_len] at *; omega)) (by first | omega | (simp only [marked_len]; omega) | (simp only [marked_len] at *; omega))) ?_)
      rintro _ w131 ⟨b136, c137, b138, c139, rfl, ho140, he135⟩ a132 hE133; clear hE129
      have hS134 := St.push2 hS112 he135 ho140; clear hS112
      refine l_step hE133 rfl (l_alloc (z := .agg #[.int .i64 0, .slice none 0 0, .slice none 0 0]) (cs := #[.int .i64 0, .slice none 0 0, .slice none 0 0]) hS134 hE133 (fun _ => by kernel_rfl) rfl rfl ?_)
      intro b142 w143 hS146 he147 a144 hE145; clear hS134 hE133
      refine l_step hE145 rfl (l_storeS (k := 0) (cs' := #[.int .i64 mp0, .slice b136 ((mp1).length) c137, .slice b138 ((mp2).length) c139]) hS146 hE145 (by kernel_rfl) rfl rfl (by kernel_rfl) rfl rfl ?_)
      intro w149 hS152 a150 hE151; clear hS146 hE145
      refine c_nil ?_
      have hE154 := hE151.sub (L' := [(2, .pointer (some ⟨b5, 0, none⟩)), (3, .pointer (some ⟨b11, 0, none⟩)), (6, .slice b114 (((F_s_GreatestBisimulation mp0 mp1 mp2 np0 np1 np2).1).length) c115), (7, .int .i64 ((F_s_GreatestBisimulation mp0 mp1 mp2 np0 np1 np2).2)), (8, .pointer (some ⟨b142, 0, none⟩))]) ⟨rfl, rfl, rfl, rfl, rfl, trivial⟩; clear hE151
      refine p_tn ?_
      refine c_seq ?_
      refine c_reg ?_
      refine q_step (v := .agg #[.int .i64 np0, .slice np1A np1.length np1C, .slice np2A np2.length np2C]) hE154 (y_loadS Try.underlying26 rfl (by kernel_rfl) rfl (St.row (i := 8) hS152 rfl)) rfl rfl rfl ?_; intro a155 hE156; clear hE154
      refine l_step hE156 rfl (l_call (f := 17) (argv := [.agg #[.int .i64 np0, .slice np1A np1.length np1C, .slice np2A np2.length np2C]]) hE156 (fun _ => cf_l_toModel _ _) rfl rfl (d_l_toModel np0 np1A np1.length np1C np1 np2A np2.length np2C np2 w149 (St.rdR (i := 11) hS152 rfl) (St.rdR (i := 10) hS152 rfl) (by first | omega | (simp only [marked_len]; omega) | (simp only [marked_len] at *; omega)) (by first | omega | (simp only [marked_len]; omega) | (simp only [marked_len] at *; omega))) ?_)
      rintro _ w158 ⟨b163, c164, b165, c166, rfl, ho167, he162⟩ a159 hE160; clear hE156
      have hS161 := St.push2 hS152 he162 ho167; clear hS152
      refine l_step hE160 rfl (l_alloc (z := .agg #[.int .i64 0, .slice none 0 0, .slice none 0 0]) (cs := #[.int .i64 0, .slice none 0 0, .slice none 0 0]) hS161 hE160 (fun _ => by kernel_rfl) rfl rfl ?_)
      intro b169 w170 hS173 he174 a171 hE172; clear hS161 hE160
      refine l_step hE172 rfl (l_storeS (k := 0) (cs' := #[.int .i64 np0, .slice b163 ((np1).length) c164, .slice b165 ((np2).length) c166]) hS173 hE172 (by kernel_rfl) rfl rfl (by kernel_rfl) rfl rfl ?_)
      intro w176 hS179 a177 hE178; clear hS173 hE172
      refine c_nil ?_
      have hE181 := hE178.sub (L' := [(2, .pointer (some ⟨b5, 0, none⟩)), (3, .pointer (some ⟨b11, 0, none⟩)), (6, .slice b114 (((F_s_GreatestBisimulation mp0 mp1 mp2 np0 np1 np2).1).length) c115), (7, .int .i64 ((F_s_GreatestBisimulation mp0 mp1 mp2 np0 np1 np2).2)), (8, .pointer (some ⟨b142, 0, none⟩)), (9, .pointer (some ⟨b169, 0, none⟩))]) ⟨rfl, rfl, rfl, rfl, rfl, rfl, trivial⟩; clear hE178
      refine p_tn ?_
      refine c_seq ?_
      refine c_reg ?_
      refine q_step (v := .agg #[.int .i64 mp0, .slice b136 ((mp1).length) c137, .slice b138 ((mp2).length) c139]) hE181 (y_loadS Try.underlying32 rfl (by kernel_rfl) rfl (St.row (i := 3) hS179 rfl)) rfl rfl rfl ?_; intro a182 hE183; clear hE181
      refine q_step (v := .agg #[.int .i64 np0, .slice b163 ((np1).length) c164, .slice b165 ((np2).length) c166]) hE183 (y_loadS Try.underlying32 rfl (by kernel_rfl) rfl (St.row (i := 0) hS179 rfl)) rfl rfl rfl ?_; intro a184 hE185; clear hE183
      refine l_step hE185 rfl (l_call (f := 18) (argv := [.agg #[.int .i64 mp0, .slice b136 ((mp1).length) c137, .slice b138 ((mp2).length) c139], .agg #[.int .i64 np0, .slice b163 ((np1).length) c164, .slice b165 ((np2).length) c166]]) hE185 (fun _ => cf_GreatestBisimulation _ _) rfl rfl (c_GreatestBisimulation mp0 b136 ((mp1).length) c137 mp1 b138 ((mp2).length) c139 mp2 np0 b163 ((np1).length) c164 np1 b165 ((np2).length) c166 np2 w176 (St.rdO (i := 4) hS179 rfl) (St.rdO (i := 5) hS179 rfl) (St.rdO (i := 1) hS179 rfl) (St.rdO (i := 2) hS179 rfl)) ?_)
      rintro _ w187 ⟨b192, c193, rfl, ho194, he191⟩ a188 hE189; clear hE185
      have hf195 := GreatestBisimulation_len mp0 mp1 mp2 np0 np1 np2
      have hS190 := St.own hS179 he191 ho194; clear hS179
      refine q_step (v := .tuple #[.slice b192 (((F_GreatestBisimulation mp0 mp1 mp2 np0 np1 np2).1).length) c193, .int .i64 ((F_GreatestBisimulation mp0 mp1 mp2 np0 np1 np2).2)]) hE189 (y_move rfl) rfl rfl rfl ?_; intro a196 hE197; clear hE189
      refine q_step (v := .slice b192 (((F_GreatestBisimulation mp0 mp1 mp2 np0 np1 np2).1).length) c193) hE197 (y_extract rfl rfl) rfl rfl rfl ?_; intro a198 hE199; clear hE197
      refine q_step (v := .int .i64 ((F_GreatestBisimulation mp0 mp1 mp2 np0 np1 np2).2)) hE199 (y_extract rfl rfl) rfl rfl rfl ?_; intro a200 hE201; clear hE199
      refine q_step (v := .slice b192 (((F_GreatestBisimulation mp0 mp1 mp2 np0 np1 np2).1).length) c193) hE201 (y_assign rfl) rfl rfl rfl ?_; intro a202 hE203; clear hE201
      refine q_step (v := .int .i64 ((F_GreatestBisimulation mp0 mp1 mp2 np0 np1 np2).2)) hE203 (y_assign rfl) rfl rfl rfl ?_; intro a204 hE205; clear hE203
      refine c_nil ?_
      have hE206 := hE205.sub (L' := [(2, .pointer (some ⟨b5, 0, none⟩)), (3, .pointer (some ⟨b11, 0, none⟩)), (6, .slice b114 (((F_s_GreatestBisimulation mp0 mp1 mp2 np0 np1 np2).1).length) c115), (7, .int .i64 ((F_s_GreatestBisimulation mp0 mp1 mp2 np0 np1 np2).2)), (8, .pointer (some ⟨b142, 0, none⟩)), (9, .pointer (some ⟨b169, 0, none⟩)), (10, .slice b192 (((F_GreatestBisimulation mp0 mp1 mp2 np0 np1 np2).1).length) c193), (11, .int .i64 ((F_GreatestBisimulation mp0 mp1 mp2 np0 np1 np2).2))]) ⟨rfl, rfl, rfl, rfl, rfl, rfl, rfl, rfl, trivial⟩; clear hE205
      refine p_tn ?_
      refine c_seq ?_
      refine c_cut (fun a' w' => E a' 119 [(2, .pointer (some ⟨b5, 0, none⟩)), (3, .pointer (some ⟨b11, 0, none⟩)), (6, .slice b114 (((F_s_GreatestBisimulation mp0 mp1 mp2 np0 np1 np2).1).length) c115), (7, .int .i64 ((F_s_GreatestBisimulation mp0 mp1 mp2 np0 np1 np2).2)), (8, .pointer (some ⟨b142, 0, none⟩)), (9, .pointer (some ⟨b169, 0, none⟩)), (10, .slice b192 (((F_GreatestBisimulation mp0 mp1 mp2 np0 np1 np2).1).length) c193), (11, .int .i64 ((F_GreatestBisimulation mp0 mp1 mp2 np0 np1 np2).2)), (53, .bool ((!(decide (((F_GreatestBisimulation mp0 mp1 mp2 np0 np1 np2).1) = ((F_s_GreatestBisimulation mp0 mp1 mp2 np0 np1 np2).1)))) || (!decide (((F_GreatestBisimulation mp0 mp1 mp2 np0 np1 np2).2) = ((F_s_GreatestBisimulation mp0 mp1 mp2 np0 np1 np2).2)))))] ∧ St w w' [.own 2 1 b192 (((F_GreatestBisimulation mp0 mp1 mp2 np0 np1 np2).1).length) c193 ((F_GreatestBisimulation mp0 mp1 mp2 np0 np1 np2).1), .own 2 1 b163 ((np1).length) c164 np1, .own 2 1 b165 ((np2).length) c166 np2, .blk b169 #[.int .i64 np0, .slice b163 ((np1).length) c164, .slice b165 ((np2).length) c166] 32, .own 2 1 b136 ((mp1).length) c137 mp1, .own 2 1 b138 ((mp2).length) c139 mp2, .blk b142 #[.int .i64 mp0, .slice b136 ((mp1).length) c137, .slice b138 ((mp2).length) c139] 32, .own 2 1 b114 (((F_s_GreatestBisimulation mp0 mp1 mp2 np0 np1 np2).1).length) c115 ((F_s_GreatestBisimulation mp0 mp1 mp2 np0 np1 np2).1), .own 2 1 b102 ((np1).length) c103 np1, .own 2 1 b104 ((np2).length) c105 np2, .own 2 1 b90 ((mp1).length) c91 mp1, .own 2 1 b92 ((mp2).length) c93 mp2, .rd 1 np1A np1.length np1C np1, .rd 1 np2A np2.length np2C np2, .blk b11 #[.int .i64 np0, .slice np1A np1.length np1C, .slice np2A np2.length np2C] 26, .rd 1 mp1A mp1.length mp1C mp1, .rd 1 mp2A mp2.length mp2C mp2, .blk b5 #[.int .i64 mp0, .slice mp1A mp1.length mp1C, .slice mp2A mp2.length mp2C] 26]) ?_ ?_
      ·
        refine c_reg ?_
        refine q_step (v := .slice b192 (((F_GreatestBisimulation mp0 mp1 mp2 np0 np1 np2).1).length) c193) hE206 (y_move rfl) rfl rfl rfl ?_; intro a207 hE208; clear hE206
        refine q_step (v := .slice b114 (((F_s_GreatestBisimulation mp0 mp1 mp2 np0 np1 np2).1).length) c115) hE208 (y_move rfl) rfl rfl rfl ?_; intro a209 hE210; clear hE208
        refine l_step hE210 rfl (l_call (f := 19) (argv := [.slice b192 (((F_GreatestBisimulation mp0 mp1 mp2 np0 np1 np2).1).length) c193, .slice b114 (((F_s_GreatestBisimulation mp0 mp1 mp2 np0 np1 np2).1).length) c115]) hE210 (fun _ => cf_l_eqInt64S _ _) rfl rfl (d_l_eqInt64S b192 (((F_GreatestBisimulation mp0 mp1 mp2 np0 np1 np2).1).length) c193 ((F_GreatestBisimulation mp0 mp1 mp2 np0 np1 np2).1) b114 (((F_s_GreatestBisimulation mp0 mp1 mp2 np0 np1 np2).1).length) c115 ((F_s_GreatestBisimulation mp0 mp1 mp2 np0 np1 np2).1) w187 (St.rdO (i := 0) hS190 rfl) (St.rdO (i := 7) hS190 rfl)) ?_)
        rintro _ w212 ⟨rfl, he216⟩ a213 hE214; clear hE210
        have hS215 := St.go hS190 he216; clear hS190
        refine q_step (v := .bool (!(decide (((F_GreatestBisimulation mp0 mp1 mp2 np0 np1 np2).1) = ((F_s_GreatestBisimulation mp0 mp1 mp2 np0 np1 np2).1))))) hE214 (y_not rfl) rfl rfl rfl ?_; intro a217 hE218; clear hE214
        refine q_step (v := .bool (!(decide (((F_GreatestBisimulation mp0 mp1 mp2 np0 np1 np2).1) = ((F_s_GreatestBisimulation mp0 mp1 mp2 np0 np1 np2).1))))) hE218 (y_move rfl) rfl rfl rfl ?_; intro a219 hE220; clear hE218
        rcases Bool.eq_false_or_eq_true (!(decide (((F_GreatestBisimulation mp0 mp1 mp2 np0 np1 np2).1) = ((F_s_GreatestBisimulation mp0 mp1 mp2 np0 np1 np2).1)))) with hb221 | hb221
        ·
          have hE222 := hE220; (try rw [hb221] at hE222); clear hE220
          have ht223 := bn_t hb221
          have hp224 := of_decide_eq_false ht223
          refine q_skip hE222 rfl rfl rfl ?_; intro a225 hE226; clear hE222
          refine q_skip hE226 rfl rfl rfl ?_; intro a227 hE228; clear hE226
          refine q_skip hE228 rfl rfl rfl ?_; intro a229 hE230; clear hE228
          refine q_step (v := .bool true) hE230 (y_pick (b := true) rfl rfl) rfl rfl rfl ?_; intro a231 hE232; clear hE230
          refine c_nil ?_
          have hE233 := hE232.sub (L' := [(2, .pointer (some ⟨b5, 0, none⟩)), (3, .pointer (some ⟨b11, 0, none⟩)), (6, .slice b114 (((F_s_GreatestBisimulation mp0 mp1 mp2 np0 np1 np2).1).length) c115), (7, .int .i64 ((F_s_GreatestBisimulation mp0 mp1 mp2 np0 np1 np2).2)), (8, .pointer (some ⟨b142, 0, none⟩)), (9, .pointer (some ⟨b169, 0, none⟩)), (10, .slice b192 (((F_GreatestBisimulation mp0 mp1 mp2 np0 np1 np2).1).length) c193), (11, .int .i64 ((F_GreatestBisimulation mp0 mp1 mp2 np0 np1 np2).2)), (53, .bool true)]) ⟨rfl, rfl, rfl, rfl, rfl, rfl, rfl, rfl, rfl, trivial⟩; clear hE232
          refine p_tn ?_
          have hE234 := hE233.sub (L' := [(2, .pointer (some ⟨b5, 0, none⟩)), (3, .pointer (some ⟨b11, 0, none⟩)), (6, .slice b114 (((F_s_GreatestBisimulation mp0 mp1 mp2 np0 np1 np2).1).length) c115), (7, .int .i64 ((F_s_GreatestBisimulation mp0 mp1 mp2 np0 np1 np2).2)), (8, .pointer (some ⟨b142, 0, none⟩)), (9, .pointer (some ⟨b169, 0, none⟩)), (10, .slice b192 (((F_GreatestBisimulation mp0 mp1 mp2 np0 np1 np2).1).length) c193), (11, .int .i64 ((F_GreatestBisimulation mp0 mp1 mp2 np0 np1 np2).2)), (53, .bool true)]) ⟨rfl, rfl, rfl, rfl, rfl, rfl, rfl, rfl, rfl, trivial⟩
          have hS235 := (St.pick (Γ' := [.own 2 1 b192 (((F_GreatestBisimulation mp0 mp1 mp2 np0 np1 np2).1).length) c193 ((F_GreatestBisimulation mp0 mp1 mp2 np0 np1 np2).1), .own 2 1 b163 ((np1).length) c164 np1, .own 2 1 b165 ((np2).length) c166 np2, .blk b169 #[.int .i64 np0, .slice b163 ((np1).length) c164, .slice b165 ((np2).length) c166] 32, .own 2 1 b136 ((mp1).length) c137 mp1, .own 2 1 b138 ((mp2).length) c139 mp2, .blk b142 #[.int .i64 mp0, .slice b136 ((mp1).length) c137, .slice b138 ((mp2).length) c139] 32, .own 2 1 b114 (((F_s_GreatestBisimulation mp0 mp1 mp2 np0 np1 np2).1).length) c115 ((F_s_GreatestBisimulation mp0 mp1 mp2 np0 np1 np2).1), .own 2 1 b102 ((np1).length) c103 np1, .own 2 1 b104 ((np2).length) c105 np2, .own 2 1 b90 ((mp1).length) c91 mp1, .own 2 1 b92 ((mp2).length) c93 mp2, .rd 1 np1A np1.length np1C np1, .rd 1 np2A np2.length np2C np2, .blk b11 #[.int .i64 np0, .slice np1A np1.length np1C, .slice np2A np2.length np2C] 26, .rd 1 mp1A mp1.length mp1C mp1, .rd 1 mp2A mp2.length mp2C mp2, .blk b5 #[.int .i64 mp0, .slice mp1A mp1.length mp1C, .slice mp2A mp2.length mp2C] 26]) hS215 [0, 2, 3, 1, 5, 6, 4, 7, 8, 9, 10, 11, 15, 14, 12, 17, 16, 13] (by decide) rfl)
          exact ⟨(by rw [hb221]; exact hE234), hS235⟩
        ·
          have hE236 := hE220; (try rw [hb221] at hE236); clear hE220
          have ht237 := bn_f hb221
          have hp238 := of_decide_eq_true ht237
          refine q_step (v := .int .i64 ((F_GreatestBisimulation mp0 mp1 mp2 np0 np1 np2).2)) hE236 (y_move rfl) rfl rfl rfl ?_; intro a239 hE240; clear hE236
          refine q_step (v := .int .i64 ((F_s_GreatestBisimulation mp0 mp1 mp2 np0 np1 np2).2)) hE240 (y_move rfl) rfl rfl rfl ?_; intro a241 hE242; clear hE240
          refine q_step (v := .bool (!decide (((F_GreatestBisimulation mp0 mp1 mp2 np0 np1 np2).2) = ((F_s_GreatestBisimulation mp0 mp1 mp2 np0 np1 np2).2)))) hE242 (y_neq rfl rfl) rfl rfl rfl ?_; intro a243 hE244; clear hE242
          refine q_step (v := .bool (!decide (((F_GreatestBisimulation mp0 mp1 mp2 np0 np1 np2).2) = ((F_s_GreatestBisimulation mp0 mp1 mp2 np0 np1 np2).2)))) hE244 (y_pick (b := false) rfl rfl) rfl rfl rfl ?_; intro a245 hE246; clear hE244
          refine c_nil ?_
          have hE247 := hE246.sub (L' := [(2, .pointer (some ⟨b5, 0, none⟩)), (3, .pointer (some ⟨b11, 0, none⟩)), (6, .slice b114 (((F_s_GreatestBisimulation mp0 mp1 mp2 np0 np1 np2).1).length) c115), (7, .int .i64 ((F_s_GreatestBisimulation mp0 mp1 mp2 np0 np1 np2).2)), (8, .pointer (some ⟨b142, 0, none⟩)), (9, .pointer (some ⟨b169, 0, none⟩)), (10, .slice b192 (((F_GreatestBisimulation mp0 mp1 mp2 np0 np1 np2).1).length) c193), (11, .int .i64 ((F_GreatestBisimulation mp0 mp1 mp2 np0 np1 np2).2)), (53, .bool (!decide (((F_GreatestBisimulation mp0 mp1 mp2 np0 np1 np2).2) = ((F_s_GreatestBisimulation mp0 mp1 mp2 np0 np1 np2).2))))]) ⟨rfl, rfl, rfl, rfl, rfl, rfl, rfl, rfl, rfl, trivial⟩; clear hE246
          refine p_tn ?_
          have hE248 := hE247.sub (L' := [(2, .pointer (some ⟨b5, 0, none⟩)), (3, .pointer (some ⟨b11, 0, none⟩)), (6, .slice b114 (((F_s_GreatestBisimulation mp0 mp1 mp2 np0 np1 np2).1).length) c115), (7, .int .i64 ((F_s_GreatestBisimulation mp0 mp1 mp2 np0 np1 np2).2)), (8, .pointer (some ⟨b142, 0, none⟩)), (9, .pointer (some ⟨b169, 0, none⟩)), (10, .slice b192 (((F_GreatestBisimulation mp0 mp1 mp2 np0 np1 np2).1).length) c193), (11, .int .i64 ((F_GreatestBisimulation mp0 mp1 mp2 np0 np1 np2).2)), (53, .bool (!decide (((F_GreatestBisimulation mp0 mp1 mp2 np0 np1 np2).2) = ((F_s_GreatestBisimulation mp0 mp1 mp2 np0 np1 np2).2))))]) ⟨rfl, rfl, rfl, rfl, rfl, rfl, rfl, rfl, rfl, trivial⟩
          have hS249 := (St.pick (Γ' := [.own 2 1 b192 (((F_GreatestBisimulation mp0 mp1 mp2 np0 np1 np2).1).length) c193 ((F_GreatestBisimulation mp0 mp1 mp2 np0 np1 np2).1), .own 2 1 b163 ((np1).length) c164 np1, .own 2 1 b165 ((np2).length) c166 np2, .blk b169 #[.int .i64 np0, .slice b163 ((np1).length) c164, .slice b165 ((np2).length) c166] 32, .own 2 1 b136 ((mp1).length) c137 mp1, .own 2 1 b138 ((mp2).length) c139 mp2, .blk b142 #[.int .i64 mp0, .slice b136 ((mp1).length) c137, .slice b138 ((mp2).length) c139] 32, .own 2 1 b114 (((F_s_GreatestBisimulation mp0 mp1 mp2 np0 np1 np2).1).length) c115 ((F_s_GreatestBisimulation mp0 mp1 mp2 np0 np1 np2).1), .own 2 1 b102 ((np1).length) c103 np1, .own 2 1 b104 ((np2).length) c105 np2, .own 2 1 b90 ((mp1).length) c91 mp1, .own 2 1 b92 ((mp2).length) c93 mp2, .rd 1 np1A np1.length np1C np1, .rd 1 np2A np2.length np2C np2, .blk b11 #[.int .i64 np0, .slice np1A np1.length np1C, .slice np2A np2.length np2C] 26, .rd 1 mp1A mp1.length mp1C mp1, .rd 1 mp2A mp2.length mp2C mp2, .blk b5 #[.int .i64 mp0, .slice mp1A mp1.length mp1C, .slice mp2A mp2.length mp2C] 26]) hS215 [0, 2, 3, 1, 5, 6, 4, 7, 8, 9, 10, 11, 15, 14, 12, 17, 16, 13] (by decide) rfl)
          exact ⟨(by rw [hb221]; exact hE248), hS249⟩
      ·
        rintro a250 w251 ⟨hE252, hS253⟩; clear hE206 hS190
        refine c_cond hE252 rfl (fun ht255 => ?_) (fun ht255 => ?_)
        ·
          have hE256 := hE252; rw [ht255] at hE256; clear hE252
          refine c_seq ?_
          refine c_reg ?_
          refine q_step (v := .bool false) hE256 (y_assign rfl) rfl rfl rfl ?_; intro a257 hE258; clear hE256
          refine c_nil ?_
          have hE259 := hE258.sub (L' := [(4, .bool false)]) ⟨rfl, trivial⟩; clear hE258
          refine p_tn ?_
          refine wp_ret ?_
          refine p_tr ?_
          have hF : F_l_FnExactGreatestBisimulation mp0 mp1 mp2 np0 np1 np2 = false := by unfold F_l_FnExactGreatestBisimulation; rw [ht255, ht68, ht41]; first | done | rfl
          refine c_ret1 hE259 rfl rfl ?_
          exact ⟨(by rw [hF]; first | done | (dsimp only; done) | rfl), hS253.ext⟩
        ·
          obtain ⟨ht260, ht261⟩ := bor_f ht255
          have ht262 := bn_f ht260
          have hp263 := of_decide_eq_true ht262
          have ht264 := bn_f ht261
          have hp265 := of_decide_eq_true ht264
          have hE266 := hE252; rw [ht255] at hE266; clear hE252
          refine wp_skip ?_
          refine p_tn ?_
          refine c_seq ?_
          refine c_seq ?_
          refine d_start (fun w w' => (fun w' => w'.heap[b142]? = some (.cells #[.int .i64 mp0, .slice b136 ((mp1).length) c137, .slice b138 ((mp2).length) c139] 32 (0, 0)) ∧ w'.heap[b5]? = some (.cells #[.int .i64 mp0, .slice mp1A mp1.length mp1C, .slice mp2A mp2.length mp2C] 26 (0, 0)) ∧ True) w → (fun w' => w'.heap[b142]? = some (.cells #[.int .i64 mp0, .slice b136 ((mp1).length) c137, .slice b138 ((mp2).length) c139] 32 (0, 0)) ∧ w'.heap[b5]? = some (.cells #[.int .i64 mp0, .slice mp1A mp1.length mp1C, .slice mp2A mp2.length mp2C] 26 (0, 0)) ∧ True) w') [0, 1] 5 (by kernel_rfl) rfl ?_
          intro w267 he268; have hS269 := St.go hS253 he268; clear hS253
          refine d_take (fun _ h => h) (fun _ _ h k => h k) (v := .agg #[.int .i64 mp0, .slice b136 ((mp1).length) c137, .slice b138 ((mp2).length) c139]) 0 rfl hE266 (S := fun w' => w'.heap[b142]? = some (.cells #[.int .i64 mp0, .slice b136 ((mp1).length) c137, .slice b138 ((mp2).length) c139] 32 (0, 0)) ∧ w'.heap[b5]? = some (.cells #[.int .i64 mp0, .slice mp1A mp1.length mp1C, .slice mp2A mp2.length mp2C] 26 (0, 0)) ∧ True) ⟨(St.row (i := 6) hS269 rfl _ (Ext.refl _)), (St.row (i := 17) hS269 rfl _ (Ext.refl _)), trivial⟩ (y_loadS Try.underlying32 rfl (by kernel_rfl) rfl (fun _ h => h.1)) rfl rfl (by kernel_rfl) (by kernel_rfl) (by kernel_rfl) (by kernel_rfl) rfl rfl (fun _ _ _ h => h) ?_; intro a270 hE271; clear hE266
          refine d_take (fun _ h => h) (fun _ _ h k => h k) (v := .agg #[.int .i64 mp0, .slice mp1A mp1.length mp1C, .slice mp2A mp2.length mp2C]) 1 rfl hE271 (S := fun w' => w'.heap[b142]? = some (.cells #[.int .i64 mp0, .slice b136 ((mp1).length) c137, .slice b138 ((mp2).length) c139] 32 (0, 0)) ∧ w'.heap[b5]? = some (.cells #[.int .i64 mp0, .slice mp1A mp1.length mp1C, .slice mp2A mp2.length mp2C] 26 (0, 0)) ∧ True) ⟨(St.row (i := 6) hS269 rfl _ (Ext.refl _)), (St.row (i := 17) hS269 rfl _ (Ext.refl _)), trivial⟩ (y_loadS Try.underlying26 rfl (by kernel_rfl) rfl (fun _ h => h.2.1)) rfl rfl (by kernel_rfl) (by kernel_rfl) (by kernel_rfl) (by kernel_rfl) rfl rfl (fun _ _ _ h => h) ?_; intro a272 hE273; clear hE271
          refine d_only 2 (by kernel_rfl) rfl hE273 rfl (l_call (f := 17) (argv := [.agg #[.int .i64 mp0, .slice mp1A mp1.length mp1C, .slice mp2A mp2.length mp2C]]) hE273 (fun _ => cf_l_toModel _ _) rfl rfl (d_l_toModel mp0 mp1A mp1.length mp1C mp1 mp2A mp2.length mp2C mp2 w267 (St.rdR (i := 15) hS269 rfl) (St.rdR (i := 16) hS269 rfl) (by first | omega | (simp only [marked_len]; omega) | (simp only [marked_len] at *; omega)) (by first | omega | (simp only [marked_len]; omega) | (simp only [marked_len] at *; omega))) ?_)
          rintro _ w275 ⟨b280, c281, b282, c283, rfl, ho284, he279⟩ a276 hE277; clear hE273
          have hS278 := St.push2 hS269 he279 ho284; clear hS269
          refine ⟨fun _ _ => ⟨(St.row (i := 8) hS278 rfl _ (Ext.refl _)), (St.row (i := 19) hS278 rfl _ (Ext.refl _)), trivial⟩, ?_⟩
          refine d_only 3 (by kernel_rfl) rfl hE277 rfl (l_call (f := 20) (argv := [.agg #[.int .i64 mp0, .slice b136 ((mp1).length) c137, .slice b138 ((mp2).length) c139], .agg #[.int .i64 mp0, .slice b280 ((mp1).length) c281, .slice b282 ((mp2).length) c283]]) hE277 (fun _ => cf_l_eqModel _ _) rfl rfl (d_l_eqModel mp0 b136 ((mp1).length) c137 mp1 b138 ((mp2).length) c139 mp2 mp0 b280 ((mp1).length) c281 mp1 b282 ((mp2).length) c283 mp2 w275 (St.rdO (i := 6) hS278 rfl) (St.rdO (i := 7) hS278 rfl) (St.rdO (i := 0) hS278 rfl) (St.rdO (i := 1) hS278 rfl)) ?_)
          rintro _ w287 ⟨rfl, he291⟩ a288 hE289; clear hE277
          have hS290 := St.go hS278 he291; clear hS278
          refine ⟨fun h => Bool.noConfusion (h.symm.trans (show exm _ _ _ = true by kernel_rfl)), ?_⟩
          refine d_pure (fun _ h => h) (v := .bool (!(decide ((mp0, mp1, mp2) = (mp0, mp1, mp2))))) 4 rfl hE289 (y_not rfl) rfl (by kernel_rfl) (by kernel_rfl) (by kernel_rfl) rfl rfl (fun _ _ _ h => h) ?_; intro a292 hE293; clear hE289
          refine d_done (by kernel_rfl) ?_
          have hE294 := hE293.sub (L' := [(2, .pointer (some ⟨b5, 0, none⟩)), (3, .pointer (some ⟨b11, 0, none⟩)), (6, .slice b114 (((F_s_GreatestBisimulation mp0 mp1 mp2 np0 np1 np2).1).length) c115), (7, .int .i64 ((F_s_GreatestBisimulation mp0 mp1 mp2 np0 np1 np2).2)), (8, .pointer (some ⟨b142, 0, none⟩)), (9, .pointer (some ⟨b169, 0, none⟩)), (10, .slice b192 (((F_GreatestBisimulation mp0 mp1 mp2 np0 np1 np2).1).length) c193), (11, .int .i64 ((F_GreatestBisimulation mp0 mp1 mp2 np0 np1 np2).2)), (58, .bool (!(decide ((mp0, mp1, mp2) = (mp0, mp1, mp2)))))]) ⟨rfl, rfl, rfl, rfl, rfl, rfl, rfl, rfl, rfl, trivial⟩; clear hE293
          refine p_tn ?_
          refine c_cond hE294 rfl (fun ht295 => ?_) (fun ht295 => ?_)
          ·
            have ht296 := bn_t ht295
            have hp297 := of_decide_eq_false ht296
            have hE298 := hE294; rw [ht295] at hE298; clear hE294
            refine c_seq ?_
            refine c_reg ?_
            refine q_step (v := .bool false) hE298 (y_assign rfl) rfl rfl rfl ?_; intro a299 hE300; clear hE298
            refine c_nil ?_
            have hE301 := hE300.sub (L' := [(4, .bool false)]) ⟨rfl, trivial⟩; clear hE300
            refine p_tn ?_
            refine wp_ret ?_
            refine p_tr ?_
            have hF : F_l_FnExactGreatestBisimulation mp0 mp1 mp2 np0 np1 np2 = false := by unfold F_l_FnExactGreatestBisimulation; rw [ht295, ht255, ht68, ht41]; first | done | rfl
            refine c_ret1 hE301 rfl rfl ?_
            exact ⟨(by rw [hF]; first | done | (dsimp only; done) | rfl), hS290.ext⟩
          ·
            have ht302 := bn_f ht295
            have hp303 := of_decide_eq_true ht302
            have hE304 := hE294; rw [ht295] at hE304; clear hE294
            refine wp_skip ?_
            refine p_tn ?_
            refine c_seq ?_
            refine c_seq ?_
            refine d_start (fun w w' => (fun w' => w'.heap[b169]? = some (.cells #[.int .i64 np0, .slice b163 ((np1).length) c164, .slice b165 ((np2).length) c166] 32 (0, 0)) ∧ w'.heap[b11]? = some (.cells #[.int .i64 np0, .slice np1A np1.length np1C, .slice np2A np2.length np2C] 26 (0, 0)) ∧ True) w → (fun w' => w'.heap[b169]? = some (.cells #[.int .i64 np0, .slice b163 ((np1).length) c164, .slice b165 ((np2).length) c166] 32 (0, 0)) ∧ w'.heap[b11]? = some (.cells #[.int .i64 np0, .slice np1A np1.length np1C, .slice np2A np2.length np2C] 26 (0, 0)) ∧ True) w') [0, 1] 5 (by kernel_rfl) rfl ?_
            intro w305 he306; have hS307 := St.go hS290 he306; clear hS290
            refine d_take (fun _ h => h) (fun _ _ h k => h k) (v := .agg #[.int .i64 np0, .slice b163 ((np1).length) c164, .slice b165 ((np2).length) c166]) 0 rfl hE304 (S := fun w' => w'.heap[b169]? = some (.cells #[.int .i64 np0, .slice b163 ((np1).length) c164, .slice b165 ((np2).length) c166] 32 (0, 0)) ∧ w'.heap[b11]? = some (.cells #[.int .i64 np0, .slice np1A np1.length np1C, .slice np2A np2.length np2C] 26 (0, 0)) ∧ True) ⟨(St.row (i := 5) hS307 rfl _ (Ext.refl _)), (St.row (i := 16) hS307 rfl _ (Ext.refl _)), trivial⟩ (y_loadS Try.underlying32 rfl (by kernel_rfl) rfl (fun _ h => h.1)) rfl rfl (by kernel_rfl) (by kernel_rfl) (by kernel_rfl) (by kernel_rfl) rfl rfl (fun _ _ _ h => h) ?_; intro a308 hE309; clear hE304
            refine d_take (fun _ h => h) (fun _ _ h k => h k) (v := .agg #[.int .i64 np0, .slice np1A np1.length np1C, .slice np2A np2.length np2C]) 1 rfl hE309 (S := fun w' => w'.heap[b169]? = some (.cells #[.int .i64 np0, .slice b163 ((np1).length) c164, .slice b165 ((np2).length) c166] 32 (0, 0)) ∧ w'.heap[b11]? = some (.cells #[.int .i64 np0, .slice np1A np1.length np1C, .slice np2A np2.length np2C] 26 (0, 0)) ∧ True) ⟨(St.row (i := 5) hS307 rfl _ (Ext.refl _)), (St.row (i := 16) hS307 rfl _ (Ext.refl _)), trivial⟩ (y_loadS Try.underlying26 rfl (by kernel_rfl) rfl (fun _ h => h.2.1)) rfl rfl (by kernel_rfl) (by kernel_rfl) (by kernel_rfl) (by kernel_rfl) rfl rfl (fun _ _ _ h => h) ?_; intro a310 hE311; clear hE309
            refine d_only 2 (by kernel_rfl) rfl hE311 rfl (l_call (f := 17) (argv := [.agg #[.int .i64 np0, .slice np1A np1.length np1C, .slice np2A np2.length np2C]]) hE311 (fun _ => cf_l_toModel _ _) rfl rfl (d_l_toModel np0 np1A np1.length np1C np1 np2A np2.length np2C np2 w305 (St.rdR (i := 14) hS307 rfl) (St.rdR (i := 15) hS307 rfl) (by first | omega | (simp only [marked_len]; omega) | (simp only [marked_len] at *; omega)) (by first | omega | (simp only [marked_len]; omega) | (simp only [marked_len] at *; omega))) ?_)
            rintro _ w313 ⟨b318, c319, b320, c321, rfl, ho322, he317⟩ a314 hE315; clear hE311
            have hS316 := St.push2 hS307 he317 ho322; clear hS307
            refine ⟨fun _ _ => ⟨(St.row (i := 7) hS316 rfl _ (Ext.refl _)), (St.row (i := 18) hS316 rfl _ (Ext.refl _)), trivial⟩, ?_⟩
            refine d_only 3 (by kernel_rfl) rfl hE315 rfl (l_call (f := 20) (argv := [.agg #[.int .i64 np0, .slice b163 ((np1).length) c164, .slice b165 ((np2).length) c166], .agg #[.int .i64 np0, .slice b318 ((np1).length) c319, .slice b320 ((np2).length) c321]]) hE315 (fun _ => cf_l_eqModel _ _) rfl rfl (d_l_eqModel np0 b163 ((np1).length) c164 np1 b165 ((np2).length) c166 np2 np0 b318 ((np1).length) c319 np1 b320 ((np2).length) c321 np2 w313 (St.rdO (i := 5) hS316 rfl) (St.rdO (i := 6) hS316 rfl) (St.rdO (i := 0) hS316 rfl) (St.rdO (i := 1) hS316 rfl)) ?_)
            rintro _ w325 ⟨rfl, he329⟩ a326 hE327; clear hE315
            have hS328 := St.go hS316 he329; clear hS316
            refine ⟨fun h => Bool.noConfusion (h.symm.trans (show exm _ _ _ = true by kernel_rfl)), ?_⟩
            refine d_pure (fun _ h => h) (v := .bool (!(decide ((np0, np1, np2) = (np0, np1, np2))))) 4 rfl hE327 (y_not rfl) rfl (by kernel_rfl) (by kernel_rfl) (by kernel_rfl) rfl rfl (fun _ _ _ h => h) ?_; intro a330 hE331; clear hE327
            refine d_done (by kernel_rfl) ?_
            have hE332 := hE331.sub (L' := [(2, .pointer (some ⟨b5, 0, none⟩)), (3, .pointer (some ⟨b11, 0, none⟩)), (6, .slice b114 (((F_s_GreatestBisimulation mp0 mp1 mp2 np0 np1 np2).1).length) c115), (7, .int .i64 ((F_s_GreatestBisimulation mp0 mp1 mp2 np0 np1 np2).2)), (8, .pointer (some ⟨b142, 0, none⟩)), (9, .pointer (some ⟨b169, 0, none⟩)), (10, .slice b192 (((F_GreatestBisimulation mp0 mp1 mp2 np0 np1 np2).1).length) c193), (11, .int .i64 ((F_GreatestBisimulation mp0 mp1 mp2 np0 np1 np2).2)), (63, .bool (!(decide ((np0, np1, np2) = (np0, np1, np2)))))]) ⟨rfl, rfl, rfl, rfl, rfl, rfl, rfl, rfl, rfl, trivial⟩; clear hE331
            refine p_tn ?_
            refine c_cond hE332 rfl (fun ht333 => ?_) (fun ht333 => ?_)
            ·
              have ht334 := bn_t ht333
              have hp335 := of_decide_eq_false ht334
              have hE336 := hE332; rw [ht333] at hE336; clear hE332
              refine c_seq ?_
              refine c_reg ?_
              refine q_step (v := .bool false) hE336 (y_assign rfl) rfl rfl rfl ?_; intro a337 hE338; clear hE336
              refine c_nil ?_
              have hE339 := hE338.sub (L' := [(4, .bool false)]) ⟨rfl, trivial⟩; clear hE338
              refine p_tn ?_
              refine wp_ret ?_
              refine p_tr ?_
              have hF : F_l_FnExactGreatestBisimulation mp0 mp1 mp2 np0 np1 np2 = false := by unfold F_l_FnExactGreatestBisimulation; rw [ht333, ht295, ht255, ht68, ht41]; first | done | rfl
              refine c_ret1 hE339 rfl rfl ?_
              exact ⟨(by rw [hF]; first | done | (dsimp only; done) | rfl), hS328.ext⟩
            ·
              have ht340 := bn_f ht333
              have hp341 := of_decide_eq_true ht340
              have hE342 := hE332; rw [ht333] at hE342; clear hE332
              refine wp_skip ?_
              refine p_tn ?_
              refine c_seq ?_
              refine c_reg ?_
              refine q_step (v := .int .i64 1) hE342 (y_assign rfl) rfl rfl rfl ?_; intro a343 hE344; clear hE342
              refine c_nil ?_
              have hE345 := hE344.sub (L' := [(2, .pointer (some ⟨b5, 0, none⟩)), (3, .pointer (some ⟨b11, 0, none⟩)), (6, .slice b114 (((F_s_GreatestBisimulation mp0 mp1 mp2 np0 np1 np2).1).length) c115), (7, .int .i64 ((F_s_GreatestBisimulation mp0 mp1 mp2 np0 np1 np2).2)), (8, .pointer (some ⟨b142, 0, none⟩)), (9, .pointer (some ⟨b169, 0, none⟩)), (10, .slice b192 (((F_GreatestBisimulation mp0 mp1 mp2 np0 np1 np2).1).length) c193), (11, .int .i64 ((F_GreatestBisimulation mp0 mp1 mp2 np0 np1 np2).2)), (12, .int .i64 1)]) ⟨rfl, rfl, rfl, rfl, rfl, rfl, rfl, rfl, rfl, trivial⟩; clear hE344
              refine p_tn ?_
              refine c_seq ?_
              refine c_reg ?_
              refine q_step (v := .agg #[.int .i64 mp0, .slice b136 ((mp1).length) c137, .slice b138 ((mp2).length) c139]) hE345 (y_loadS Try.underlying32 rfl (by kernel_rfl) rfl (St.row (i := 10) hS328 rfl)) rfl rfl rfl ?_; intro a346 hE347; clear hE345
              refine q_step (v := .int .i64 1) hE347 (y_move rfl) rfl rfl rfl ?_; intro a348 hE349; clear hE347
              have hS356 := (St.pick (Γ' := [.own 2 1 b138 ((mp2).length) c139 mp2, .own 2 1 b136 ((mp1).length) c137 mp1, .own 2 1 b318 ((np1).length) c319 np1, .own 2 1 b320 ((np2).length) c321 np2, .own 2 1 b280 ((mp1).length) c281 mp1, .own 2 1 b282 ((mp2).length) c283 mp2, .own 2 1 b192 (((F_GreatestBisimulation mp0 mp1 mp2 np0 np1 np2).1).length) c193 ((F_GreatestBisimulation mp0 mp1 mp2 np0 np1 np2).1), .own 2 1 b163 ((np1).length) c164 np1, .own 2 1 b165 ((np2).length) c166 np2, .blk b169 #[.int .i64 np0, .slice b163 ((np1).length) c164, .slice b165 ((np2).length) c166] 32, .blk b142 #[.int .i64 mp0, .slice b136 ((mp1).length) c137, .slice b138 ((mp2).length) c139] 32, .own 2 1 b114 (((F_s_GreatestBisimulation mp0 mp1 mp2 np0 np1 np2).1).length) c115 ((F_s_GreatestBisimulation mp0 mp1 mp2 np0 np1 np2).1), .own 2 1 b102 ((np1).length) c103 np1, .own 2 1 b104 ((np2).length) c105 np2, .own 2 1 b90 ((mp1).length) c91 mp1, .own 2 1 b92 ((mp2).length) c93 mp2, .rd 1 np1A np1.length np1C np1, .rd 1 np2A np2.length np2C np2, .blk b11 #[.int .i64 np0, .slice np1A np1.length np1C, .slice np2A np2.length np2C] 26, .rd 1 mp1A mp1.length mp1C mp1, .rd 1 mp2A mp2.length mp2C mp2, .blk b5 #[.int .i64 mp0, .slice mp1A mp1.length mp1C, .slice mp2A mp2.length mp2C] 26]) hS328 [9, 8, 0, 1, 2, 3, 4, 5, 6, 7, 10, 11, 12, 13, 14, 15, 16, 17, 18, 19, 20, 21] (by decide) rfl); clear hS328
              refine l_step hE349 rfl (l_call (f := 21) (argv := [.agg #[.int .i64 mp0, .slice b136 ((mp1).length) c137, .slice b138 ((mp2).length) c139], .int .i64 1]) hE349 (fun _ => cf_l_markModel _ _) rfl rfl (d_l_markModel mp0 b136 ((mp1).length) c137 mp1 b138 ((mp2).length) c139 mp2 1 w325 w [.own 2 1 b318 ((np1).length) c319 np1, .own 2 1 b320 ((np2).length) c321 np2, .own 2 1 b280 ((mp1).length) c281 mp1, .own 2 1 b282 ((mp2).length) c283 mp2, .own 2 1 b192 (((F_GreatestBisimulation mp0 mp1 mp2 np0 np1 np2).1).length) c193 ((F_GreatestBisimulation mp0 mp1 mp2 np0 np1 np2).1), .own 2 1 b163 ((np1).length) c164 np1, .own 2 1 b165 ((np2).length) c166 np2, .blk b169 #[.int .i64 np0, .slice b163 ((np1).length) c164, .slice b165 ((np2).length) c166] 32, .blk b142 #[.int .i64 mp0, .slice b136 ((mp1).length) c137, .slice b138 ((mp2).length) c139] 32, .own 2 1 b114 (((F_s_GreatestBisimulation mp0 mp1 mp2 np0 np1 np2).1).length) c115 ((F_s_GreatestBisimulation mp0 mp1 mp2 np0 np1 np2).1), .own 2 1 b102 ((np1).length) c103 np1, .own 2 1 b104 ((np2).length) c105 np2, .own 2 1 b90 ((mp1).length) c91 mp1, .own 2 1 b92 ((mp2).length) c93 mp2, .rd 1 np1A np1.length np1C np1, .rd 1 np2A np2.length np2C np2, .blk b11 #[.int .i64 np0, .slice np1A np1.length np1C, .slice np2A np2.length np2C] 26, .rd 1 mp1A mp1.length mp1C mp1, .rd 1 mp2A mp2.length mp2C mp2, .blk b5 #[.int .i64 mp0, .slice mp1A mp1.length mp1C, .slice mp2A mp2.length mp2C] 26] hS356 (by first | omega | (simp only [marked_len]; omega) | (simp only [marked_len] at *; omega)) (by first | omega | (simp only [marked_len]; omega) | (simp only [marked_len] at *; omega)) (by first | omega | (simp only [marked_len]; omega) | (simp only [marked_len] at *; omega)) (by first | omega | (simp only [marked_len]; omega) | (simp only [marked_len] at *; omega))) ?_)
              rintro _ w351 ⟨rfl, hS354⟩ a352 hE353; clear hE349 hS356
              refine q_step (v := .int .i64 (1 + (mp1.length : Int) + (mp2.length : Int))) hE353 (y_assign rfl) rfl rfl rfl ?_; intro a357 hE358; clear hE353
              refine c_nil ?_
              have hE359 := hE358.sub (L' := [(2, .pointer (some ⟨b5, 0, none⟩)), (3, .pointer (some ⟨b11, 0, none⟩)), (6, .slice b114 (((F_s_GreatestBisimulation mp0 mp1 mp2 np0 np1 np2).1).length) c115), (7, .int .i64 ((F_s_GreatestBisimulation mp0 mp1 mp2 np0 np1 np2).2)), (9, .pointer (some ⟨b169, 0, none⟩)), (10, .slice b192 (((F_GreatestBisimulation mp0 mp1 mp2 np0 np1 np2).1).length) c193), (11, .int .i64 ((F_GreatestBisimulation mp0 mp1 mp2 np0 np1 np2).2)), (12, .int .i64 (1 + (mp1.length : Int) + (mp2.length : Int)))]) ⟨rfl, rfl, rfl, rfl, rfl, rfl, rfl, rfl, trivial⟩; clear hE358
              refine p_tn ?_
              refine c_seq ?_
              refine c_reg ?_
              refine q_step (v := .agg #[.int .i64 np0, .slice b163 ((np1).length) c164, .slice b165 ((np2).length) c166]) hE359 (y_loadS Try.underlying32 rfl (by kernel_rfl) rfl (St.row (i := 9) hS354 rfl)) rfl rfl rfl ?_; intro a360 hE361; clear hE359
              refine q_step (v := .int .i64 (1 + (mp1.length : Int) + (mp2.length : Int))) hE361 (y_move rfl) rfl rfl rfl ?_; intro a362 hE363; clear hE361
              have hS370 := (St.pick (Γ' := [.own 2 1 b165 ((np2).length) c166 np2, .own 2 1 b163 ((np1).length) c164 np1, .own 2 1 b138 ((mp2).length) c139 (marked mp2.length (1 + (mp1.length : Int))), .own 2 1 b136 ((mp1).length) c137 (marked mp1.length 1), .own 2 1 b318 ((np1).length) c319 np1, .own 2 1 b320 ((np2).length) c321 np2, .own 2 1 b280 ((mp1).length) c281 mp1, .own 2 1 b282 ((mp2).length) c283 mp2, .own 2 1 b192 (((F_GreatestBisimulation mp0 mp1 mp2 np0 np1 np2).1).length) c193 ((F_GreatestBisimulation mp0 mp1 mp2 np0 np1 np2).1), .blk b169 #[.int .i64 np0, .slice b163 ((np1).length) c164, .slice b165 ((np2).length) c166] 32, .blk b142 #[.int .i64 mp0, .slice b136 ((mp1).length) c137, .slice b138 ((mp2).length) c139] 32, .own 2 1 b114 (((F_s_GreatestBisimulation mp0 mp1 mp2 np0 np1 np2).1).length) c115 ((F_s_GreatestBisimulation mp0 mp1 mp2 np0 np1 np2).1), .own 2 1 b102 ((np1).length) c103 np1, .own 2 1 b104 ((np2).length) c105 np2, .own 2 1 b90 ((mp1).length) c91 mp1, .own 2 1 b92 ((mp2).length) c93 mp2, .rd 1 np1A np1.length np1C np1, .rd 1 np2A np2.length np2C np2, .blk b11 #[.int .i64 np0, .slice np1A np1.length np1C, .slice np2A np2.length np2C] 26, .rd 1 mp1A mp1.length mp1C mp1, .rd 1 mp2A mp2.length mp2C mp2, .blk b5 #[.int .i64 mp0, .slice mp1A mp1.length mp1C, .slice mp2A mp2.length mp2C] 26]) hS354 [8, 7, 0, 1, 2, 3, 4, 5, 6, 9, 10, 11, 12, 13, 14, 15, 16, 17, 18, 19, 20, 21] (by decide) rfl); clear hS354
              refine l_step hE363 rfl (l_call (f := 21) (argv := [.agg #[.int .i64 np0, .slice b163 ((np1).length) c164, .slice b165 ((np2).length) c166], .int .i64 (1 + (mp1.length : Int) + (mp2.length : Int))]) hE363 (fun _ => cf_l_markModel _ _) rfl rfl (d_l_markModel np0 b163 ((np1).length) c164 np1 b165 ((np2).length) c166 np2 (1 + (mp1.length : Int) + (mp2.length : Int)) w351 w [.own 2 1 b138 ((mp2).length) c139 (marked mp2.length (1 + (mp1.length : Int))), .own 2 1 b136 ((mp1).length) c137 (marked mp1.length 1), .own 2 1 b318 ((np1).length) c319 np1, .own 2 1 b320 ((np2).length) c321 np2, .own 2 1 b280 ((mp1).length) c281 mp1, .own 2 1 b282 ((mp2).length) c283 mp2, .own 2 1 b192 (((F_GreatestBisimulation mp0 mp1 mp2 np0 np1 np2).1).length) c193 ((F_GreatestBisimulation mp0 mp1 mp2 np0 np1 np2).1), .blk b169 #[.int .i64 np0, .slice b163 ((np1).length) c164, .slice b165 ((np2).length) c166] 32, .blk b142 #[.int .i64 mp0, .slice b136 ((mp1).length) c137, .slice b138 ((mp2).length) c139] 32, .own 2 1 b114 (((F_s_GreatestBisimulation mp0 mp1 mp2 np0 np1 np2).1).length) c115 ((F_s_GreatestBisimulation mp0 mp1 mp2 np0 np1 np2).1), .own 2 1 b102 ((np1).length) c103 np1, .own 2 1 b104 ((np2).length) c105 np2, .own 2 1 b90 ((mp1).length) c91 mp1, .own 2 1 b92 ((mp2).length) c93 mp2, .rd 1 np1A np1.length np1C np1, .rd 1 np2A np2.length np2C np2, .blk b11 #[.int .i64 np0, .slice np1A np1.length np1C, .slice np2A np2.length np2C] 26, .rd 1 mp1A mp1.length mp1C mp1, .rd 1 mp2A mp2.length mp2C mp2, .blk b5 #[.int .i64 mp0, .slice mp1A mp1.length mp1C, .slice mp2A mp2.length mp2C] 26] hS370 (by first | omega | (simp only [marked_len]; omega) | (simp only [marked_len] at *; omega)) (by first | omega | (simp only [marked_len]; omega) | (simp only [marked_len] at *; omega)) (by first | omega | (simp only [marked_len]; omega) | (simp only [marked_len] at *; omega)) (by first | omega | (simp only [marked_len]; omega) | (simp only [marked_len] at *; omega))) ?_)
              rintro _ w365 ⟨rfl, hS368⟩ a366 hE367; clear hE363 hS370
              refine q_step (v := .int .i64 ((1 + (mp1.length : Int) + (mp2.length : Int)) + (np1.length : Int) + (np2.length : Int))) hE367 (y_assign rfl) rfl rfl rfl ?_; intro a371 hE372; clear hE367
              refine c_nil ?_
              have hE373 := hE372.sub (L' := [(2, .pointer (some ⟨b5, 0, none⟩)), (3, .pointer (some ⟨b11, 0, none⟩)), (6, .slice b114 (((F_s_GreatestBisimulation mp0 mp1 mp2 np0 np1 np2).1).length) c115), (7, .int .i64 ((F_s_GreatestBisimulation mp0 mp1 mp2 np0 np1 np2).2)), (10, .slice b192 (((F_GreatestBisimulation mp0 mp1 mp2 np0 np1 np2).1).length) c193), (11, .int .i64 ((F_GreatestBisimulation mp0 mp1 mp2 np0 np1 np2).2)), (12, .int .i64 ((1 + (mp1.length : Int) + (mp2.length : Int)) + (np1.length : Int) + (np2.length : Int)))]) ⟨rfl, rfl, rfl, rfl, rfl, rfl, rfl, trivial⟩; clear hE372
              refine p_tn ?_
              refine c_seq ?_
              refine c_cut (fun a' w' => E a' 119 [(2, .pointer (some ⟨b5, 0, none⟩)), (3, .pointer (some ⟨b11, 0, none⟩)), (6, .slice b114 (((F_s_GreatestBisimulation mp0 mp1 mp2 np0 np1 np2).1).length) c115), (7, .int .i64 ((F_s_GreatestBisimulation mp0 mp1 mp2 np0 np1 np2).2)), (10, .slice b192 (((F_GreatestBisimulation mp0 mp1 mp2 np0 np1 np2).1).length) c193), (82, .bool ((decide (((1 + (mp1.length : Int) + (mp2.length : Int)) + (np1.length : Int) + (np2.length : Int)) < 0)) || ((!(decide (((F_GreatestBisimulation mp0 mp1 mp2 np0 np1 np2).1) = ((F_s_GreatestBisimulation mp0 mp1 mp2 np0 np1 np2).1)))) || (!decide (((F_GreatestBisimulation mp0 mp1 mp2 np0 np1 np2).2) = ((F_s_GreatestBisimulation mp0 mp1 mp2 np0 np1 np2).2))))))] ∧ St w w' [.own 2 1 b165 ((np2).length) c166 (marked np2.length ((1 + (mp1.length : Int) + (mp2.length : Int)) + (np1.length : Int))), .own 2 1 b163 ((np1).length) c164 (marked np1.length (1 + (mp1.length : Int) + (mp2.length : Int))), .own 2 1 b138 ((mp2).length) c139 (marked mp2.length (1 + (mp1.length : Int))), .own 2 1 b136 ((mp1).length) c137 (marked mp1.length 1), .own 2 1 b318 ((np1).length) c319 np1, .own 2 1 b320 ((np2).length) c321 np2, .own 2 1 b280 ((mp1).length) c281 mp1, .own 2 1 b282 ((mp2).length) c283 mp2, .own 2 1 b192 (((F_GreatestBisimulation mp0 mp1 mp2 np0 np1 np2).1).length) c193 ((F_GreatestBisimulation mp0 mp1 mp2 np0 np1 np2).1), .blk b169 #[.int .i64 np0, .slice b163 ((np1).length) c164, .slice b165 ((np2).length) c166] 32, .blk b142 #[.int .i64 mp0, .slice b136 ((mp1).length) c137, .slice b138 ((mp2).length) c139] 32, .own 2 1 b114 (((F_s_GreatestBisimulation mp0 mp1 mp2 np0 np1 np2).1).length) c115 ((F_s_GreatestBisimulation mp0 mp1 mp2 np0 np1 np2).1), .own 2 1 b102 ((np1).length) c103 np1, .own 2 1 b104 ((np2).length) c105 np2, .own 2 1 b90 ((mp1).length) c91 mp1, .own 2 1 b92 ((mp2).length) c93 mp2, .rd 1 np1A np1.length np1C np1, .rd 1 np2A np2.length np2C np2, .blk b11 #[.int .i64 np0, .slice np1A np1.length np1C, .slice np2A np2.length np2C] 26, .rd 1 mp1A mp1.length mp1C mp1, .rd 1 mp2A mp2.length mp2C mp2, .blk b5 #[.int .i64 mp0, .slice mp1A mp1.length mp1C, .slice mp2A mp2.length mp2C] 26]) ?_ ?_
              ·
                refine c_reg ?_
                refine q_step (v := .int .i64 ((1 + (mp1.length : Int) + (mp2.length : Int)) + (np1.length : Int) + (np2.length : Int))) hE373 (y_move rfl) rfl rfl rfl ?_; intro a374 hE375; clear hE373
                refine q_step (v := .bool (decide (((1 + (mp1.length : Int) + (mp2.length : Int)) + (np1.length : Int) + (np2.length : Int)) < 0))) hE375 (y_lss rfl rfl) rfl rfl rfl ?_; intro a376 hE377; clear hE375
                refine q_step (v := .bool (decide (((1 + (mp1.length : Int) + (mp2.length : Int)) + (np1.length : Int) + (np2.length : Int)) < 0))) hE377 (y_move rfl) rfl rfl rfl ?_; intro a378 hE379; clear hE377
                rcases Bool.eq_false_or_eq_true (decide (((1 + (mp1.length : Int) + (mp2.length : Int)) + (np1.length : Int) + (np2.length : Int)) < 0)) with hb380 | hb380
                ·
                  have hE381 := hE379; (try rw [hb380] at hE381); clear hE379
                  have hp382 := of_decide_eq_true hb380
                  refine q_skip hE381 rfl rfl rfl ?_; intro a383 hE384; clear hE381
                  refine q_skip hE384 rfl rfl rfl ?_; intro a385 hE386; clear hE384
                  refine q_skip hE386 rfl rfl rfl ?_; intro a387 hE388; clear hE386
                  refine q_skip hE388 rfl rfl rfl ?_; intro a389 hE390; clear hE388
                  refine q_step (v := .bool true) hE390 (y_pick (b := true) rfl rfl) rfl rfl rfl ?_; intro a391 hE392; clear hE390
                  refine q_step (v := .bool true) hE392 (y_move rfl) rfl rfl rfl ?_; intro a393 hE394; clear hE392
                  refine q_skip hE394 rfl rfl rfl ?_; intro a395 hE396; clear hE394
                  refine q_skip hE396 rfl rfl rfl ?_; intro a397 hE398; clear hE396
                  refine q_skip hE398 rfl rfl rfl ?_; intro a399 hE400; clear hE398
                  refine q_step (v := .bool true) hE400 (y_pick (b := true) rfl rfl) rfl rfl rfl ?_; intro a401 hE402; clear hE400
                  refine c_nil ?_
                  have hE403 := hE402.sub (L' := [(2, .pointer (some ⟨b5, 0, none⟩)), (3, .pointer (some ⟨b11, 0, none⟩)), (6, .slice b114 (((F_s_GreatestBisimulation mp0 mp1 mp2 np0 np1 np2).1).length) c115), (7, .int .i64 ((F_s_GreatestBisimulation mp0 mp1 mp2 np0 np1 np2).2)), (10, .slice b192 (((F_GreatestBisimulation mp0 mp1 mp2 np0 np1 np2).1).length) c193), (82, .bool true)]) ⟨rfl, rfl, rfl, rfl, rfl, rfl, trivial⟩; clear hE402
                  refine p_tn ?_
                  have hE404 := hE403.sub (L' := [(2, .pointer (some ⟨b5, 0, none⟩)), (3, .pointer (some ⟨b11, 0, none⟩)), (6, .slice b114 (((F_s_GreatestBisimulation mp0 mp1 mp2 np0 np1 np2).1).length) c115), (7, .int .i64 ((F_s_GreatestBisimulation mp0 mp1 mp2 np0 np1 np2).2)), (10, .slice b192 (((F_GreatestBisimulation mp0 mp1 mp2 np0 np1 np2).1).length) c193), (82, .bool true)]) ⟨rfl, rfl, rfl, rfl, rfl, rfl, trivial⟩
                  have hS405 := (St.pick (Γ' := [.own 2 1 b165 ((np2).length) c166 (marked np2.length ((1 + (mp1.length : Int) + (mp2.length : Int)) + (np1.length : Int))), .own 2 1 b163 ((np1).length) c164 (marked np1.length (1 + (mp1.length : Int) + (mp2.length : Int))), .own 2 1 b138 ((mp2).length) c139 (marked mp2.length (1 + (mp1.length : Int))), .own 2 1 b136 ((mp1).length) c137 (marked mp1.length 1), .own 2 1 b318 ((np1).length) c319 np1, .own 2 1 b320 ((np2).length) c321 np2, .own 2 1 b280 ((mp1).length) c281 mp1, .own 2 1 b282 ((mp2).length) c283 mp2, .own 2 1 b192 (((F_GreatestBisimulation mp0 mp1 mp2 np0 np1 np2).1).length) c193 ((F_GreatestBisimulation mp0 mp1 mp2 np0 np1 np2).1), .blk b169 #[.int .i64 np0, .slice b163 ((np1).length) c164, .slice b165 ((np2).length) c166] 32, .blk b142 #[.int .i64 mp0, .slice b136 ((mp1).length) c137, .slice b138 ((mp2).length) c139] 32, .own 2 1 b114 (((F_s_GreatestBisimulation mp0 mp1 mp2 np0 np1 np2).1).length) c115 ((F_s_GreatestBisimulation mp0 mp1 mp2 np0 np1 np2).1), .own 2 1 b102 ((np1).length) c103 np1, .own 2 1 b104 ((np2).length) c105 np2, .own 2 1 b90 ((mp1).length) c91 mp1, .own 2 1 b92 ((mp2).length) c93 mp2, .rd 1 np1A np1.length np1C np1, .rd 1 np2A np2.length np2C np2, .blk b11 #[.int .i64 np0, .slice np1A np1.length np1C, .slice np2A np2.length np2C] 26, .rd 1 mp1A mp1.length mp1C mp1, .rd 1 mp2A mp2.length mp2C mp2, .blk b5 #[.int .i64 mp0, .slice mp1A mp1.length mp1C, .slice mp2A mp2.length mp2C] 26]) hS368 [0, 1, 2, 3, 4, 5, 6, 7, 8, 9, 10, 11, 12, 13, 14, 15, 16, 17, 18, 19, 20, 21] (by decide) rfl)
                  exact ⟨(by rw [hb380]; exact hE404), hS405⟩
                ·
                  have hE406 := hE379; (try rw [hb380] at hE406); clear hE379
                  have hp407 := of_decide_eq_false hb380
                  refine q_step (v := .slice b192 (((F_GreatestBisimulation mp0 mp1 mp2 np0 np1 np2).1).length) c193) hE406 (y_move rfl) rfl rfl rfl ?_; intro a408 hE409; clear hE406
                  refine q_step (v := .slice b114 (((F_s_GreatestBisimulation mp0 mp1 mp2 np0 np1 np2).1).length) c115) hE409 (y_move rfl) rfl rfl rfl ?_; intro a410 hE411; clear hE409
                  refine l_step hE411 rfl (l_call (f := 19) (argv := [.slice b192 (((F_GreatestBisimulation mp0 mp1 mp2 np0 np1 np2).1).length) c193, .slice b114 (((F_s_GreatestBisimulation mp0 mp1 mp2 np0 np1 np2).1).length) c115]) hE411 (fun _ => cf_l_eqInt64S _ _) rfl rfl (d_l_eqInt64S b192 (((F_GreatestBisimulation mp0 mp1 mp2 np0 np1 np2).1).length) c193 ((F_GreatestBisimulation mp0 mp1 mp2 np0 np1 np2).1) b114 (((F_s_GreatestBisimulation mp0 mp1 mp2 np0 np1 np2).1).length) c115 ((F_s_GreatestBisimulation mp0 mp1 mp2 np0 np1 np2).1) w365 (St.rdO (i := 8) hS368 rfl) (St.rdO (i := 11) hS368 rfl)) ?_)
                  rintro _ w413 ⟨rfl, he417⟩ a414 hE415; clear hE411
                  have hS416 := St.go hS368 he417; clear hS368
                  refine q_step (v := .bool (!(decide (((F_GreatestBisimulation mp0 mp1 mp2 np0 np1 np2).1) = ((F_s_GreatestBisimulation mp0 mp1 mp2 np0 np1 np2).1))))) hE415 (y_not rfl) rfl rfl rfl ?_; intro a418 hE419; clear hE415
                  refine q_step (v := .bool (!(decide (((F_GreatestBisimulation mp0 mp1 mp2 np0 np1 np2).1) = ((F_s_GreatestBisimulation mp0 mp1 mp2 np0 np1 np2).1))))) hE419 (y_pick (b := false) rfl rfl) rfl rfl rfl ?_; intro a420 hE421; clear hE419
                  refine q_step (v := .bool (!(decide (((F_GreatestBisimulation mp0 mp1 mp2 np0 np1 np2).1) = ((F_s_GreatestBisimulation mp0 mp1 mp2 np0 np1 np2).1))))) hE421 (y_move rfl) rfl rfl rfl ?_; intro a422 hE423; clear hE421
                  rcases Bool.eq_false_or_eq_true (!(decide (((F_GreatestBisimulation mp0 mp1 mp2 np0 np1 np2).1) = ((F_s_GreatestBisimulation mp0 mp1 mp2 np0 np1 np2).1)))) with hb424 | hb424
                  ·
                    have hE425 := hE423; (try rw [hb424] at hE425); clear hE423
                    have ht426 := bn_t hb424
                    have hp427 := of_decide_eq_false ht426
                    refine q_skip hE425 rfl rfl rfl ?_; intro a428 hE429; clear hE425
                    refine q_skip hE429 rfl rfl rfl ?_; intro a430 hE431; clear hE429
                    refine q_skip hE431 rfl rfl rfl ?_; intro a432 hE433; clear hE431
                    refine q_step (v := .bool true) hE433 (y_pick (b := true) rfl rfl) rfl rfl rfl ?_; intro a434 hE435; clear hE433
                    refine c_nil ?_
                    have hE436 := hE435.sub (L' := [(2, .pointer (some ⟨b5, 0, none⟩)), (3, .pointer (some ⟨b11, 0, none⟩)), (6, .slice b114 (((F_s_GreatestBisimulation mp0 mp1 mp2 np0 np1 np2).1).length) c115), (7, .int .i64 ((F_s_GreatestBisimulation mp0 mp1 mp2 np0 np1 np2).2)), (10, .slice b192 (((F_GreatestBisimulation mp0 mp1 mp2 np0 np1 np2).1).length) c193), (82, .bool true)]) ⟨rfl, rfl, rfl, rfl, rfl, rfl, trivial⟩; clear hE435
                    refine p_tn ?_
                    have hE437 := hE436.sub (L' := [(2, .pointer (some ⟨b5, 0, none⟩)), (3, .pointer (some ⟨b11, 0, none⟩)), (6, .slice b114 (((F_s_GreatestBisimulation mp0 mp1 mp2 np0 np1 np2).1).length) c115), (7, .int .i64 ((F_s_GreatestBisimulation mp0 mp1 mp2 np0 np1 np2).2)), (10, .slice b192 (((F_GreatestBisimulation mp0 mp1 mp2 np0 np1 np2).1).length) c193), (82, .bool true)]) ⟨rfl, rfl, rfl, rfl, rfl, rfl, trivial⟩
                    have hS438 := (St.pick (Γ' := [.own 2 1 b165 ((np2).length) c166 (marked np2.length ((1 + (mp1.length : Int) + (mp2.length : Int)) + (np1.length : Int))), .own 2 1 b163 ((np1).length) c164 (marked np1.length (1 + (mp1.length : Int) + (mp2.length : Int))), .own 2 1 b138 ((mp2).length) c139 (marked mp2.length (1 + (mp1.length : Int))), .own 2 1 b136 ((mp1).length) c137 (marked mp1.length 1), .own 2 1 b318 ((np1).length) c319 np1, .own 2 1 b320 ((np2).length) c321 np2, .own 2 1 b280 ((mp1).length) c281 mp1, .own 2 1 b282 ((mp2).length) c283 mp2, .own 2 1 b192 (((F_GreatestBisimulation mp0 mp1 mp2 np0 np1 np2).1).length) c193 ((F_GreatestBisimulation mp0 mp1 mp2 np0 np1 np2).1), .blk b169 #[.int .i64 np0, .slice b163 ((np1).length) c164, .slice b165 ((np2).length) c166] 32, .blk b142 #[.int .i64 mp0, .slice b136 ((mp1).length) c137, .slice b138 ((mp2).length) c139] 32, .own 2 1 b114 (((F_s_GreatestBisimulation mp0 mp1 mp2 np0 np1 np2).1).length) c115 ((F_s_GreatestBisimulation mp0 mp1 mp2 np0 np1 np2).1), .own 2 1 b102 ((np1).length) c103 np1, .own 2 1 b104 ((np2).length) c105 np2, .own 2 1 b90 ((mp1).length) c91 mp1, .own 2 1 b92 ((mp2).length) c93 mp2, .rd 1 np1A np1.length np1C np1, .rd 1 np2A np2.length np2C np2, .blk b11 #[.int .i64 np0, .slice np1A np1.length np1C, .slice np2A np2.length np2C] 26, .rd 1 mp1A mp1.length mp1C mp1, .rd 1 mp2A mp2.length mp2C mp2, .blk b5 #[.int .i64 mp0, .slice mp1A mp1.length mp1C, .slice mp2A mp2.length mp2C] 26]) hS416 [0, 1, 2, 3, 4, 5, 6, 7, 8, 9, 10, 11, 12, 13, 14, 15, 16, 17, 18, 19, 20, 21] (by decide) rfl)
                    exact ⟨(by rw [hb424, hb380]; exact hE437), hS438⟩
                  ·
                    have hE439 := hE423; (try rw [hb424] at hE439); clear hE423
                    have ht440 := bn_f hb424
                    have hp441 := of_decide_eq_true ht440
                    refine q_step (v := .int .i64 ((F_GreatestBisimulation mp0 mp1 mp2 np0 np1 np2).2)) hE439 (y_move rfl) rfl rfl rfl ?_; intro a442 hE443; clear hE439
                    refine q_step (v := .int .i64 ((F_s_GreatestBisimulation mp0 mp1 mp2 np0 np1 np2).2)) hE443 (y_move rfl) rfl rfl rfl ?_; intro a444 hE445; clear hE443
                    refine q_step (v := .bool (!decide (((F_GreatestBisimulation mp0 mp1 mp2 np0 np1 np2).2) = ((F_s_GreatestBisimulation mp0 mp1 mp2 np0 np1 np2).2)))) hE445 (y_neq rfl rfl) rfl rfl rfl ?_; intro a446 hE447; clear hE445
                    refine q_step (v := .bool (!decide (((F_GreatestBisimulation mp0 mp1 mp2 np0 np1 np2).2) = ((F_s_GreatestBisimulation mp0 mp1 mp2 np0 np1 np2).2)))) hE447 (y_pick (b := false) rfl rfl) rfl rfl rfl ?_; intro a448 hE449; clear hE447
                    refine c_nil ?_
                    have hE450 := hE449.sub (L' := [(2, .pointer (some ⟨b5, 0, none⟩)), (3, .pointer (some ⟨b11, 0, none⟩)), (6, .slice b114 (((F_s_GreatestBisimulation mp0 mp1 mp2 np0 np1 np2).1).length) c115), (7, .int .i64 ((F_s_GreatestBisimulation mp0 mp1 mp2 np0 np1 np2).2)), (10, .slice b192 (((F_GreatestBisimulation mp0 mp1 mp2 np0 np1 np2).1).length) c193), (82, .bool (!decide (((F_GreatestBisimulation mp0 mp1 mp2 np0 np1 np2).2) = ((F_s_GreatestBisimulation mp0 mp1 mp2 np0 np1 np2).2))))]) ⟨rfl, rfl, rfl, rfl, rfl, rfl, trivial⟩; clear hE449
                    refine p_tn ?_
                    have hE451 := hE450.sub (L' := [(2, .pointer (some ⟨b5, 0, none⟩)), (3, .pointer (some ⟨b11, 0, none⟩)), (6, .slice b114 (((F_s_GreatestBisimulation mp0 mp1 mp2 np0 np1 np2).1).length) c115), (7, .int .i64 ((F_s_GreatestBisimulation mp0 mp1 mp2 np0 np1 np2).2)), (10, .slice b192 (((F_GreatestBisimulation mp0 mp1 mp2 np0 np1 np2).1).length) c193), (82, .bool (!decide (((F_GreatestBisimulation mp0 mp1 mp2 np0 np1 np2).2) = ((F_s_GreatestBisimulation mp0 mp1 mp2 np0 np1 np2).2))))]) ⟨rfl, rfl, rfl, rfl, rfl, rfl, trivial⟩
                    have hS452 := (St.pick (Γ' := [.own 2 1 b165 ((np2).length) c166 (marked np2.length ((1 + (mp1.length : Int) + (mp2.length : Int)) + (np1.length : Int))), .own 2 1 b163 ((np1).length) c164 (marked np1.length (1 + (mp1.length : Int) + (mp2.length : Int))), .own 2 1 b138 ((mp2).length) c139 (marked mp2.length (1 + (mp1.length : Int))), .own 2 1 b136 ((mp1).length) c137 (marked mp1.length 1), .own 2 1 b318 ((np1).length) c319 np1, .own 2 1 b320 ((np2).length) c321 np2, .own 2 1 b280 ((mp1).length) c281 mp1, .own 2 1 b282 ((mp2).length) c283 mp2, .own 2 1 b192 (((F_GreatestBisimulation mp0 mp1 mp2 np0 np1 np2).1).length) c193 ((F_GreatestBisimulation mp0 mp1 mp2 np0 np1 np2).1), .blk b169 #[.int .i64 np0, .slice b163 ((np1).length) c164, .slice b165 ((np2).length) c166] 32, .blk b142 #[.int .i64 mp0, .slice b136 ((mp1).length) c137, .slice b138 ((mp2).length) c139] 32, .own 2 1 b114 (((F_s_GreatestBisimulation mp0 mp1 mp2 np0 np1 np2).1).length) c115 ((F_s_GreatestBisimulation mp0 mp1 mp2 np0 np1 np2).1), .own 2 1 b102 ((np1).length) c103 np1, .own 2 1 b104 ((np2).length) c105 np2, .own 2 1 b90 ((mp1).length) c91 mp1, .own 2 1 b92 ((mp2).length) c93 mp2, .rd 1 np1A np1.length np1C np1, .rd 1 np2A np2.length np2C np2, .blk b11 #[.int .i64 np0, .slice np1A np1.length np1C, .slice np2A np2.length np2C] 26, .rd 1 mp1A mp1.length mp1C mp1, .rd 1 mp2A mp2.length mp2C mp2, .blk b5 #[.int .i64 mp0, .slice mp1A mp1.length mp1C, .slice mp2A mp2.length mp2C] 26]) hS416 [0, 1, 2, 3, 4, 5, 6, 7, 8, 9, 10, 11, 12, 13, 14, 15, 16, 17, 18, 19, 20, 21] (by decide) rfl)
                    exact ⟨(by rw [hb424, hb380]; exact hE451), hS452⟩
              ·
                rintro a453 w454 ⟨hE455, hS456⟩; clear hE373 hS368
                refine c_cond hE455 rfl (fun ht458 => ?_) (fun ht458 => ?_)
                ·
                  have hE459 := hE455; rw [ht458] at hE459; clear hE455
                  refine c_seq ?_
                  refine c_reg ?_
                  refine q_step (v := .bool false) hE459 (y_assign rfl) rfl rfl rfl ?_; intro a460 hE461; clear hE459
                  refine c_nil ?_
                  have hE462 := hE461.sub (L' := [(4, .bool false)]) ⟨rfl, trivial⟩; clear hE461
                  refine p_tn ?_
                  refine wp_ret ?_
                  refine p_tr ?_
                  have hF : F_l_FnExactGreatestBisimulation mp0 mp1 mp2 np0 np1 np2 = false := by unfold F_l_FnExactGreatestBisimulation; rw [ht458, ht333, ht295, ht255, ht68, ht41]; first | done | rfl
                  refine c_ret1 hE462 rfl rfl ?_
                  exact ⟨(by rw [hF]; first | done | (dsimp only; done) | rfl), hS456.ext⟩
                ·
                  obtain ⟨ht463, ht464⟩ := bor_f ht458
                  have hp465 := of_decide_eq_false ht463
                  obtain ⟨ht466, ht467⟩ := bor_f ht464
                  have ht468 := bn_f ht466
                  have hp469 := of_decide_eq_true ht468
                  have ht470 := bn_f ht467
                  have hp471 := of_decide_eq_true ht470
                  have hE472 := hE455; rw [ht458] at hE472; clear hE455
                  refine wp_skip ?_
                  refine p_tn ?_
                  refine c_seq ?_
                  refine c_reg ?_
                  refine q_step (v := .int .i64 1) hE472 (y_assign rfl) rfl rfl rfl ?_; intro a473 hE474; clear hE472
                  refine c_nil ?_
                  have hE475 := hE474.sub (L' := [(2, .pointer (some ⟨b5, 0, none⟩)), (3, .pointer (some ⟨b11, 0, none⟩)), (6, .slice b114 (((F_s_GreatestBisimulation mp0 mp1 mp2 np0 np1 np2).1).length) c115), (7, .int .i64 ((F_s_GreatestBisimulation mp0 mp1 mp2 np0 np1 np2).2)), (10, .slice b192 (((F_GreatestBisimulation mp0 mp1 mp2 np0 np1 np2).1).length) c193), (13, .int .i64 1)]) ⟨rfl, rfl, rfl, rfl, rfl, rfl, trivial⟩; clear hE474
                  refine p_tn ?_
                  refine c_seq ?_
                  refine c_reg ?_
                  refine q_step (v := .slice b192 (((F_GreatestBisimulation mp0 mp1 mp2 np0 np1 np2).1).length) c193) hE475 (y_move rfl) rfl rfl rfl ?_; intro a476 hE477; clear hE475
                  refine q_step (v := .int .i64 1) hE477 (y_move rfl) rfl rfl rfl ?_; intro a478 hE479; clear hE477
                  have hS486 := (St.pick (Γ' := [.own 2 1 b192 (((F_GreatestBisimulation mp0 mp1 mp2 np0 np1 np2).1).length) c193 ((F_GreatestBisimulation mp0 mp1 mp2 np0 np1 np2).1), .own 2 1 b165 ((np2).length) c166 (marked np2.length ((1 + (mp1.length : Int) + (mp2.length : Int)) + (np1.length : Int))), .own 2 1 b163 ((np1).length) c164 (marked np1.length (1 + (mp1.length : Int) + (mp2.length : Int))), .own 2 1 b138 ((mp2).length) c139 (marked mp2.length (1 + (mp1.length : Int))), .own 2 1 b136 ((mp1).length) c137 (marked mp1.length 1), .own 2 1 b318 ((np1).length) c319 np1, .own 2 1 b320 ((np2).length) c321 np2, .own 2 1 b280 ((mp1).length) c281 mp1, .own 2 1 b282 ((mp2).length) c283 mp2, .blk b169 #[.int .i64 np0, .slice b163 ((np1).length) c164, .slice b165 ((np2).length) c166] 32, .blk b142 #[.int .i64 mp0, .slice b136 ((mp1).length) c137, .slice b138 ((mp2).length) c139] 32, .own 2 1 b114 (((F_s_GreatestBisimulation mp0 mp1 mp2 np0 np1 np2).1).length) c115 ((F_s_GreatestBisimulation mp0 mp1 mp2 np0 np1 np2).1), .own 2 1 b102 ((np1).length) c103 np1, .own 2 1 b104 ((np2).length) c105 np2, .own 2 1 b90 ((mp1).length) c91 mp1, .own 2 1 b92 ((mp2).length) c93 mp2, .rd 1 np1A np1.length np1C np1, .rd 1 np2A np2.length np2C np2, .blk b11 #[.int .i64 np0, .slice np1A np1.length np1C, .slice np2A np2.length np2C] 26, .rd 1 mp1A mp1.length mp1C mp1, .rd 1 mp2A mp2.length mp2C mp2, .blk b5 #[.int .i64 mp0, .slice mp1A mp1.length mp1C, .slice mp2A mp2.length mp2C] 26]) hS456 [8, 0, 1, 2, 3, 4, 5, 6, 7, 9, 10, 11, 12, 13, 14, 15, 16, 17, 18, 19, 20, 21] (by decide) rfl); clear hS456
                  refine l_step hE479 rfl (l_call (f := 22) (argv := [.slice b192 (((F_GreatestBisimulation mp0 mp1 mp2 np0 np1 np2).1).length) c193, .int .i64 1]) hE479 (fun _ => cf_l_markInt64S _ _) rfl rfl (d_l_markInt64S b192 (((F_GreatestBisimulation mp0 mp1 mp2 np0 np1 np2).1).length) c193 ((F_GreatestBisimulation mp0 mp1 mp2 np0 np1 np2).1) 1 w454 w [.own 2 1 b165 ((np2).length) c166 (marked np2.length ((1 + (mp1.length : Int) + (mp2.length : Int)) + (np1.length : Int))), .own 2 1 b163 ((np1).length) c164 (marked np1.length (1 + (mp1.length : Int) + (mp2.length : Int))), .own 2 1 b138 ((mp2).length) c139 (marked mp2.length (1 + (mp1.length : Int))), .own 2 1 b136 ((mp1).length) c137 (marked mp1.length 1), .own 2 1 b318 ((np1).length) c319 np1, .own 2 1 b320 ((np2).length) c321 np2, .own 2 1 b280 ((mp1).length) c281 mp1, .own 2 1 b282 ((mp2).length) c283 mp2, .blk b169 #[.int .i64 np0, .slice b163 ((np1).length) c164, .slice b165 ((np2).length) c166] 32, .blk b142 #[.int .i64 mp0, .slice b136 ((mp1).length) c137, .slice b138 ((mp2).length) c139] 32, .own 2 1 b114 (((F_s_GreatestBisimulation mp0 mp1 mp2 np0 np1 np2).1).length) c115 ((F_s_GreatestBisimulation mp0 mp1 mp2 np0 np1 np2).1), .own 2 1 b102 ((np1).length) c103 np1, .own 2 1 b104 ((np2).length) c105 np2, .own 2 1 b90 ((mp1).length) c91 mp1, .own 2 1 b92 ((mp2).length) c93 mp2, .rd 1 np1A np1.length np1C np1, .rd 1 np2A np2.length np2C np2, .blk b11 #[.int .i64 np0, .slice np1A np1.length np1C, .slice np2A np2.length np2C] 26, .rd 1 mp1A mp1.length mp1C mp1, .rd 1 mp2A mp2.length mp2C mp2, .blk b5 #[.int .i64 mp0, .slice mp1A mp1.length mp1C, .slice mp2A mp2.length mp2C] 26] hS486 (by first | omega | (simp only [marked_len]; omega) | (simp only [marked_len] at *; omega)) (by first | omega | (simp only [marked_len]; omega) | (simp only [marked_len] at *; omega)) (by first | omega | (simp only [marked_len]; omega) | (simp only [marked_len] at *; omega))) ?_)
                  rintro _ w481 ⟨rfl, hS484⟩ a482 hE483; clear hE479 hS486
                  refine q_step (v := .int .i64 (1 + (((F_GreatestBisimulation mp0 mp1 mp2 np0 np1 np2).1).length : Int))) hE483 (y_assign rfl) rfl rfl rfl ?_; intro a487 hE488; clear hE483
                  refine c_nil ?_
                  have hE489 := hE488.sub (L' := [(2, .pointer (some ⟨b5, 0, none⟩)), (3, .pointer (some ⟨b11, 0, none⟩)), (6, .slice b114 (((F_s_GreatestBisimulation mp0 mp1 mp2 np0 np1 np2).1).length) c115), (7, .int .i64 ((F_s_GreatestBisimulation mp0 mp1 mp2 np0 np1 np2).2)), (10, .slice b192 (((F_GreatestBisimulation mp0 mp1 mp2 np0 np1 np2).1).length) c193), (13, .int .i64 (1 + (((F_GreatestBisimulation mp0 mp1 mp2 np0 np1 np2).1).length : Int)))]) ⟨rfl, rfl, rfl, rfl, rfl, rfl, trivial⟩; clear hE488
                  refine p_tn ?_
                  refine c_seq ?_
                  refine c_reg ?_
                  refine q_step (v := .int .i64 1) hE489 (y_assign rfl) rfl rfl rfl ?_; intro a490 hE491; clear hE489
                  refine c_nil ?_
                  have hE492 := hE491.sub (L' := [(2, .pointer (some ⟨b5, 0, none⟩)), (3, .pointer (some ⟨b11, 0, none⟩)), (6, .slice b114 (((F_s_GreatestBisimulation mp0 mp1 mp2 np0 np1 np2).1).length) c115), (7, .int .i64 ((F_s_GreatestBisimulation mp0 mp1 mp2 np0 np1 np2).2)), (10, .slice b192 (((F_GreatestBisimulation mp0 mp1 mp2 np0 np1 np2).1).length) c193), (13, .int .i64 (1 + (((F_GreatestBisimulation mp0 mp1 mp2 np0 np1 np2).1).length : Int))), (14, .int .i64 1)]) ⟨rfl, rfl, rfl, rfl, rfl, rfl, rfl, trivial⟩; clear hE491
                  refine p_tn ?_
                  refine c_seq ?_
                  refine c_reg ?_
                  refine q_step (v := .slice b192 (((F_GreatestBisimulation mp0 mp1 mp2 np0 np1 np2).1).length) c193) hE492 (y_move rfl) rfl rfl rfl ?_; intro a493 hE494; clear hE492
                  refine q_step (v := .int .i64 1) hE494 (y_move rfl) rfl rfl rfl ?_; intro a495 hE496; clear hE494
                  refine l_step hE496 rfl (l_call (f := 23) (argv := [.slice b192 (((F_GreatestBisimulation mp0 mp1 mp2 np0 np1 np2).1).length) c193, .int .i64 1]) hE496 (fun _ => cf_l_heldInt64S _ _) rfl rfl (c_l_heldInt64S b192 (((F_GreatestBisimulation mp0 mp1 mp2 np0 np1 np2).1).length) c193 (marked ((F_GreatestBisimulation mp0 mp1 mp2 np0 np1 np2).1).length 1) 1 w481 (St.rdO (i := 0) hS484 rfl) (by first | omega | (simp only [marked_len]; omega) | (simp only [marked_len] at *; omega)) (by first | omega | (simp only [marked_len]; omega) | (simp only [marked_len] at *; omega)) (by first | omega | (simp only [marked_len]; omega) | (simp only [marked_len] at *; omega))) ?_)
                  rintro _ w498 ⟨rfl, he502⟩ a499 hE500; clear hE496
                  have hS501 := St.go hS484 he502; clear hS484
                  refine q_step (v := .int .i64 (F_l_heldInt64S (marked ((F_GreatestBisimulation mp0 mp1 mp2 np0 np1 np2).1).length 1) 1)) hE500 (y_assign rfl) rfl rfl rfl ?_; intro a503 hE504; clear hE500
                  refine c_nil ?_
                  have hE505 := hE504.sub (L' := [(2, .pointer (some ⟨b5, 0, none⟩)), (3, .pointer (some ⟨b11, 0, none⟩)), (6, .slice b114 (((F_s_GreatestBisimulation mp0 mp1 mp2 np0 np1 np2).1).length) c115), (7, .int .i64 ((F_s_GreatestBisimulation mp0 mp1 mp2 np0 np1 np2).2)), (10, .slice b192 (((F_GreatestBisimulation mp0 mp1 mp2 np0 np1 np2).1).length) c193), (13, .int .i64 (1 + (((F_GreatestBisimulation mp0 mp1 mp2 np0 np1 np2).1).length : Int))), (14, .int .i64 (F_l_heldInt64S (marked ((F_GreatestBisimulation mp0 mp1 mp2 np0 np1 np2).1).length 1) 1))]) ⟨rfl, rfl, rfl, rfl, rfl, rfl, rfl, trivial⟩; clear hE504
                  refine p_tn ?_
                  refine c_seq ?_
                  refine c_seq ?_
                  refine c_reg ?_
                  refine q_step (v := .int .i64 (F_l_heldInt64S (marked ((F_GreatestBisimulation mp0 mp1 mp2 np0 np1 np2).1).length 1) 1)) hE505 (y_move rfl) rfl rfl rfl ?_; intro a506 hE507; clear hE505
                  refine q_step (v := .bool (decide ((F_l_heldInt64S (marked ((F_GreatestBisimulation mp0 mp1 mp2 np0 np1 np2).1).length 1) 1) < 0))) hE507 (y_lss rfl rfl) rfl rfl rfl ?_; intro a508 hE509; clear hE507
                  refine c_nil ?_
                  have hE510 := hE509.sub (L' := [(2, .pointer (some ⟨b5, 0, none⟩)), (3, .pointer (some ⟨b11, 0, none⟩)), (6, .slice b114 (((F_s_GreatestBisimulation mp0 mp1 mp2 np0 np1 np2).1).length) c115), (7, .int .i64 ((F_s_GreatestBisimulation mp0 mp1 mp2 np0 np1 np2).2)), (10, .slice b192 (((F_GreatestBisimulation mp0 mp1 mp2 np0 np1 np2).1).length) c193), (13, .int .i64 (1 + (((F_GreatestBisimulation mp0 mp1 mp2 np0 np1 np2).1).length : Int))), (14, .int .i64 (F_l_heldInt64S (marked ((F_GreatestBisimulation mp0 mp1 mp2 np0 np1 np2).1).length 1) 1)), (90, .bool (decide ((F_l_heldInt64S (marked ((F_GreatestBisimulation mp0 mp1 mp2 np0 np1 np2).1).length 1) 1) < 0)))]) ⟨rfl, rfl, rfl, rfl, rfl, rfl, rfl, rfl, trivial⟩; clear hE509
                  refine p_tn ?_
                  refine c_cond hE510 rfl (fun ht511 => ?_) (fun ht511 => ?_)
                  ·
                    have hp512 := of_decide_eq_true ht511
                    have hE513 := hE510; rw [ht511] at hE513; clear hE510
                    refine c_seq ?_
                    refine c_reg ?_
                    refine q_step (v := .bool false) hE513 (y_assign rfl) rfl rfl rfl ?_; intro a514 hE515; clear hE513
                    refine c_nil ?_
                    have hE516 := hE515.sub (L' := [(4, .bool false)]) ⟨rfl, trivial⟩; clear hE515
                    refine p_tn ?_
                    refine wp_ret ?_
                    refine p_tr ?_
                    have hF : F_l_FnExactGreatestBisimulation mp0 mp1 mp2 np0 np1 np2 = false := by unfold F_l_FnExactGreatestBisimulation; rw [ht511, ht458, ht333, ht295, ht255, ht68, ht41]; first | done | rfl
                    refine c_ret1 hE516 rfl rfl ?_
                    exact ⟨(by rw [hF]; first | done | (dsimp only; done) | rfl), hS501.ext⟩
                  ·
                    have hp517 := of_decide_eq_false ht511
                    have hE518 := hE510; rw [ht511] at hE518; clear hE510
                    refine wp_skip ?_
                    refine p_tn ?_
                    refine c_seq ?_
                    refine c_seq ?_
                    refine c_reg ?_
                    refine q_step (v := .int .i64 (F_l_heldInt64S (marked ((F_GreatestBisimulation mp0 mp1 mp2 np0 np1 np2).1).length 1) 1)) hE518 (y_move rfl) rfl rfl rfl ?_; intro a519 hE520; clear hE518
                    refine q_step (v := .int .i64 (1 + (((F_GreatestBisimulation mp0 mp1 mp2 np0 np1 np2).1).length : Int))) hE520 (y_move rfl) rfl rfl rfl ?_; intro a521 hE522; clear hE520
                    refine q_step (v := .bool (!decide ((F_l_heldInt64S (marked ((F_GreatestBisimulation mp0 mp1 mp2 np0 np1 np2).1).length 1) 1) = (1 + (((F_GreatestBisimulation mp0 mp1 mp2 np0 np1 np2).1).length : Int))))) hE522 (y_neq rfl rfl) rfl rfl rfl ?_; intro a523 hE524; clear hE522
                    refine c_nil ?_
                    have hE525 := hE524.sub (L' := [(2, .pointer (some ⟨b5, 0, none⟩)), (3, .pointer (some ⟨b11, 0, none⟩)), (6, .slice b114 (((F_s_GreatestBisimulation mp0 mp1 mp2 np0 np1 np2).1).length) c115), (7, .int .i64 ((F_s_GreatestBisimulation mp0 mp1 mp2 np0 np1 np2).2)), (10, .slice b192 (((F_GreatestBisimulation mp0 mp1 mp2 np0 np1 np2).1).length) c193), (13, .int .i64 (1 + (((F_GreatestBisimulation mp0 mp1 mp2 np0 np1 np2).1).length : Int))), (93, .bool (!decide ((F_l_heldInt64S (marked ((F_GreatestBisimulation mp0 mp1 mp2 np0 np1 np2).1).length 1) 1) = (1 + (((F_GreatestBisimulation mp0 mp1 mp2 np0 np1 np2).1).length : Int)))))]) ⟨rfl, rfl, rfl, rfl, rfl, rfl, rfl, trivial⟩; clear hE524
                    refine p_tn ?_
                    refine c_cond hE525 rfl (fun ht526 => ?_) (fun ht526 => ?_)
                    ·
                      have ht527 := bn_t ht526
                      have hp528 := of_decide_eq_false ht527
                      have hE529 := hE525; rw [ht526] at hE529; clear hE525
                      refine c_seq ?_
                      refine c_reg ?_
                      refine q_step (v := .bool false) hE529 (y_assign rfl) rfl rfl rfl ?_; intro a530 hE531; clear hE529
                      refine c_nil ?_
                      have hE532 := hE531.sub (L' := [(4, .bool false)]) ⟨rfl, trivial⟩; clear hE531
                      refine p_tn ?_
                      refine wp_ret ?_
                      refine p_tr ?_
                      have hF : F_l_FnExactGreatestBisimulation mp0 mp1 mp2 np0 np1 np2 = false := by unfold F_l_FnExactGreatestBisimulation; rw [ht526, ht511, ht458, ht333, ht295, ht255, ht68, ht41]; first | done | rfl
                      refine c_ret1 hE532 rfl rfl ?_
                      exact ⟨(by rw [hF]; first | done | (dsimp only; done) | rfl), hS501.ext⟩
                    ·
                      have ht533 := bn_f ht526
                      have hp534 := of_decide_eq_true ht533
                      have hE535 := hE525; rw [ht526] at hE535; clear hE525
                      refine wp_skip ?_
                      refine p_tn ?_
                      refine c_seq ?_
                      refine d_start (fun w w' => (fun w' => w'.heap[b5]? = some (.cells #[.int .i64 mp0, .slice mp1A mp1.length mp1C, .slice mp2A mp2.length mp2C] 26 (0, 0)) ∧ w'.heap[b11]? = some (.cells #[.int .i64 np0, .slice np1A np1.length np1C, .slice np2A np2.length np2C] 26 (0, 0)) ∧ True) w → (fun w' => w'.heap[b5]? = some (.cells #[.int .i64 mp0, .slice mp1A mp1.length mp1C, .slice mp2A mp2.length mp2C] 26 (0, 0)) ∧ w'.heap[b11]? = some (.cells #[.int .i64 np0, .slice np1A np1.length np1C, .slice np2A np2.length np2C] 26 (0, 0)) ∧ True) w') [0, 2] 10 (by kernel_rfl) rfl ?_
                      intro w536 he537; have hS538 := St.go hS501 he537; clear hS501
                      refine d_take (fun _ h => h) (fun _ _ h k => h k) (v := .agg #[.int .i64 mp0, .slice mp1A mp1.length mp1C, .slice mp2A mp2.length mp2C]) 0 rfl hE535 (S := fun w' => w'.heap[b5]? = some (.cells #[.int .i64 mp0, .slice mp1A mp1.length mp1C, .slice mp2A mp2.length mp2C] 26 (0, 0)) ∧ w'.heap[b11]? = some (.cells #[.int .i64 np0, .slice np1A np1.length np1C, .slice np2A np2.length np2C] 26 (0, 0)) ∧ True) ⟨(St.row (i := 21) hS538 rfl _ (Ext.refl _)), (St.row (i := 18) hS538 rfl _ (Ext.refl _)), trivial⟩ (y_loadS Try.underlying26 rfl (by kernel_rfl) rfl (fun _ h => h.1)) rfl rfl (by kernel_rfl) (by kernel_rfl) (by kernel_rfl) (by kernel_rfl) rfl rfl (fun _ _ _ h => h) ?_; intro a539 hE540; clear hE535
                      refine d_take (fun _ h => h) (fun _ _ h k => h k) (v := .agg #[.int .i64 np0, .slice np1A np1.length np1C, .slice np2A np2.length np2C]) 2 rfl hE540 (S := fun w' => w'.heap[b5]? = some (.cells #[.int .i64 mp0, .slice mp1A mp1.length mp1C, .slice mp2A mp2.length mp2C] 26 (0, 0)) ∧ w'.heap[b11]? = some (.cells #[.int .i64 np0, .slice np1A np1.length np1C, .slice np2A np2.length np2C] 26 (0, 0)) ∧ True) ⟨(St.row (i := 21) hS538 rfl _ (Ext.refl _)), (St.row (i := 18) hS538 rfl _ (Ext.refl _)), trivial⟩ (y_loadS Try.underlying26 rfl (by kernel_rfl) rfl (fun _ h => h.2.1)) rfl rfl (by kernel_rfl) (by kernel_rfl) (by kernel_rfl) (by kernel_rfl) rfl rfl (fun _ _ _ h => h) ?_; intro a541 hE542; clear hE540
                      refine d_only 1 (by kernel_rfl) rfl hE542 rfl (l_call (f := 17) (argv := [.agg #[.int .i64 mp0, .slice mp1A mp1.length mp1C, .slice mp2A mp2.length mp2C]]) hE542 (fun _ => cf_l_toModel _ _) rfl rfl (d_l_toModel mp0 mp1A mp1.length mp1C mp1 mp2A mp2.length mp2C mp2 w536 (St.rdR (i := 19) hS538 rfl) (St.rdR (i := 20) hS538 rfl) (by first | omega | (simp only [marked_len]; omega) | (simp only [marked_len] at *; omega)) (by first | omega | (simp only [marked_len]; omega) | (simp only [marked_len] at *; omega))) ?_)
                      rintro _ w544 ⟨b549, c550, b551, c552, rfl, ho553, he548⟩ a545 hE546; clear hE542
                      have hS547 := St.push2 hS538 he548 ho553; clear hS538
                      refine ⟨fun _ _ => ⟨(St.row (i := 23) hS547 rfl _ (Ext.refl _)), (St.row (i := 20) hS547 rfl _ (Ext.refl _)), trivial⟩, ?_⟩
                      refine d_only 3 (by kernel_rfl) rfl hE546 rfl (l_call (f := 17) (argv := [.agg #[.int .i64 np0, .slice np1A np1.length np1C, .slice np2A np2.length np2C]]) hE546 (fun _ => cf_l_toModel _ _) rfl rfl (d_l_toModel np0 np1A np1.length np1C np1 np2A np2.length np2C np2 w544 (St.rdR (i := 18) hS547 rfl) (St.rdR (i := 19) hS547 rfl) (by first | omega | (simp only [marked_len]; omega) | (simp only [marked_len] at *; omega)) (by first | omega | (simp only [marked_len]; omega) | (simp only [marked_len] at *; omega))) ?_)
                      rintro _ w556 ⟨b561, c562, b563, c564, rfl, ho565, he560⟩ a557 hE558; clear hE546
                      have hS559 := St.push2 hS547 he560 ho565; clear hS547
                      refine ⟨fun h => Bool.noConfusion (h.symm.trans (show exm _ _ _ = true by kernel_rfl)), ?_⟩
                      refine d_only 4 (by kernel_rfl) rfl hE558 rfl (l_call (f := 18) (argv := [.agg #[.int .i64 mp0, .slice b549 ((mp1).length) c550, .slice b551 ((mp2).length) c552], .agg #[.int .i64 np0, .slice b561 ((np1).length) c562, .slice b563 ((np2).length) c564]]) hE558 (fun _ => cf_GreatestBisimulation _ _) rfl rfl (c_GreatestBisimulation mp0 b549 ((mp1).length) c550 mp1 b551 ((mp2).length) c552 mp2 np0 b561 ((np1).length) c562 np1 b563 ((np2).length) c564 np2 w556 (St.rdO (i := 2) hS559 rfl) (St.rdO (i := 3) hS559 rfl) (St.rdO (i := 0) hS559 rfl) (St.rdO (i := 1) hS559 rfl)) ?_)
                      rintro _ w568 ⟨b573, c574, rfl, ho575, he572⟩ a569 hE570; clear hE558
                      have hf576 := GreatestBisimulation_len mp0 mp1 mp2 np0 np1 np2
                      have hS571 := St.own hS559 he572 ho575; clear hS559
                      refine ⟨fun h => Bool.noConfusion (h.symm.trans (show exm _ _ _ = true by kernel_rfl)), ?_⟩
                      refine d_pure (fun _ h => h) (v := .tuple #[.slice b573 (((F_GreatestBisimulation mp0 mp1 mp2 np0 np1 np2).1).length) c574, .int .i64 ((F_GreatestBisimulation mp0 mp1 mp2 np0 np1 np2).2)]) 5 rfl hE570 (y_move rfl) rfl (by kernel_rfl) (by kernel_rfl) (by kernel_rfl) rfl rfl (fun _ _ _ h => h) ?_; intro a577 hE578; clear hE570
                      refine d_pure (fun _ h => h) (v := .slice b573 (((F_GreatestBisimulation mp0 mp1 mp2 np0 np1 np2).1).length) c574) 6 rfl hE578 (y_extract rfl rfl) rfl (by kernel_rfl) (by kernel_rfl) (by kernel_rfl) rfl rfl (fun _ _ _ h => h) ?_; intro a579 hE580; clear hE578
                      refine d_pure (fun _ h => h) (v := .int .i64 ((F_GreatestBisimulation mp0 mp1 mp2 np0 np1 np2).2)) 7 rfl hE580 (y_extract rfl rfl) rfl (by kernel_rfl) (by kernel_rfl) (by kernel_rfl) rfl rfl (fun _ _ _ h => h) ?_; intro a581 hE582; clear hE580
                      refine d_pure (fun _ h => h) (v := .slice b573 (((F_GreatestBisimulation mp0 mp1 mp2 np0 np1 np2).1).length) c574) 8 rfl hE582 (y_assign rfl) rfl (by kernel_rfl) (by kernel_rfl) (by kernel_rfl) rfl rfl (fun _ _ _ h => h) ?_; intro a583 hE584; clear hE582
                      refine d_pure (fun _ h => h) (v := .int .i64 ((F_GreatestBisimulation mp0 mp1 mp2 np0 np1 np2).2)) 9 rfl hE584 (y_assign rfl) rfl (by kernel_rfl) (by kernel_rfl) (by kernel_rfl) rfl rfl (fun _ _ _ h => h) ?_; intro a585 hE586; clear hE584
                      refine d_done (by kernel_rfl) ?_
                      have hE587 := hE586.sub (L' := [(6, .slice b114 (((F_s_GreatestBisimulation mp0 mp1 mp2 np0 np1 np2).1).length) c115), (7, .int .i64 ((F_s_GreatestBisimulation mp0 mp1 mp2 np0 np1 np2).2)), (10, .slice b192 (((F_GreatestBisimulation mp0 mp1 mp2 np0 np1 np2).1).length) c193), (13, .int .i64 (1 + (((F_GreatestBisimulation mp0 mp1 mp2 np0 np1 np2).1).length : Int))), (15, .slice b573 (((F_GreatestBisimulation mp0 mp1 mp2 np0 np1 np2).1).length) c574), (16, .int .i64 ((F_GreatestBisimulation mp0 mp1 mp2 np0 np1 np2).2))]) ⟨rfl, rfl, rfl, rfl, rfl, rfl, trivial⟩; clear hE586
                      refine p_tn ?_
                      refine c_seq ?_
                      refine c_cut (fun a' w' => E a' 119 [(10, .slice b192 (((F_GreatestBisimulation mp0 mp1 mp2 np0 np1 np2).1).length) c193), (13, .int .i64 (1 + (((F_GreatestBisimulation mp0 mp1 mp2 np0 np1 np2).1).length : Int))), (110, .bool ((!(decide (((F_GreatestBisimulation mp0 mp1 mp2 np0 np1 np2).1) = ((F_s_GreatestBisimulation mp0 mp1 mp2 np0 np1 np2).1)))) || (!decide (((F_GreatestBisimulation mp0 mp1 mp2 np0 np1 np2).2) = ((F_s_GreatestBisimulation mp0 mp1 mp2 np0 np1 np2).2)))))] ∧ St w w' [.own 2 1 b573 (((F_GreatestBisimulation mp0 mp1 mp2 np0 np1 np2).1).length) c574 ((F_GreatestBisimulation mp0 mp1 mp2 np0 np1 np2).1), .own 2 1 b561 ((np1).length) c562 np1, .own 2 1 b563 ((np2).length) c564 np2, .own 2 1 b549 ((mp1).length) c550 mp1, .own 2 1 b551 ((mp2).length) c552 mp2, .own 2 1 b192 (((F_GreatestBisimulation mp0 mp1 mp2 np0 np1 np2).1).length) c193 (marked ((F_GreatestBisimulation mp0 mp1 mp2 np0 np1 np2).1).length 1), .own 2 1 b165 ((np2).length) c166 (marked np2.length ((1 + (mp1.length : Int) + (mp2.length : Int)) + (np1.length : Int))), .own 2 1 b163 ((np1).length) c164 (marked np1.length (1 + (mp1.length : Int) + (mp2.length : Int))), .own 2 1 b138 ((mp2).length) c139 (marked mp2.length (1 + (mp1.length : Int))), .own 2 1 b136 ((mp1).length) c137 (marked mp1.length 1), .own 2 1 b318 ((np1).length) c319 np1, .own 2 1 b320 ((np2).length) c321 np2, .own 2 1 b280 ((mp1).length) c281 mp1, .own 2 1 b282 ((mp2).length) c283 mp2, .blk b169 #[.int .i64 np0, .slice b163 ((np1).length) c164, .slice b165 ((np2).length) c166] 32, .blk b142 #[.int .i64 mp0, .slice b136 ((mp1).length) c137, .slice b138 ((mp2).length) c139] 32, .own 2 1 b114 (((F_s_GreatestBisimulation mp0 mp1 mp2 np0 np1 np2).1).length) c115 ((F_s_GreatestBisimulation mp0 mp1 mp2 np0 np1 np2).1), .own 2 1 b102 ((np1).length) c103 np1, .own 2 1 b104 ((np2).length) c105 np2, .own 2 1 b90 ((mp1).length) c91 mp1, .own 2 1 b92 ((mp2).length) c93 mp2, .rd 1 np1A np1.length np1C np1, .rd 1 np2A np2.length np2C np2, .blk b11 #[.int .i64 np0, .slice np1A np1.length np1C, .slice np2A np2.length np2C] 26, .rd 1 mp1A mp1.length mp1C mp1, .rd 1 mp2A mp2.length mp2C mp2, .blk b5 #[.int .i64 mp0, .slice mp1A mp1.length mp1C, .slice mp2A mp2.length mp2C] 26]) ?_ ?_
                      ·
                        refine c_reg ?_
                        refine q_step (v := .slice b573 (((F_GreatestBisimulation mp0 mp1 mp2 np0 np1 np2).1).length) c574) hE587 (y_move rfl) rfl rfl rfl ?_; intro a588 hE589; clear hE587
                        refine q_step (v := .slice b114 (((F_s_GreatestBisimulation mp0 mp1 mp2 np0 np1 np2).1).length) c115) hE589 (y_move rfl) rfl rfl rfl ?_; intro a590 hE591; clear hE589
                        refine l_step hE591 rfl (l_call (f := 19) (argv := [.slice b573 (((F_GreatestBisimulation mp0 mp1 mp2 np0 np1 np2).1).length) c574, .slice b114 (((F_s_GreatestBisimulation mp0 mp1 mp2 np0 np1 np2).1).length) c115]) hE591 (fun _ => cf_l_eqInt64S _ _) rfl rfl (d_l_eqInt64S b573 (((F_GreatestBisimulation mp0 mp1 mp2 np0 np1 np2).1).length) c574 ((F_GreatestBisimulation mp0 mp1 mp2 np0 np1 np2).1) b114 (((F_s_GreatestBisimulation mp0 mp1 mp2 np0 np1 np2).1).length) c115 ((F_s_GreatestBisimulation mp0 mp1 mp2 np0 np1 np2).1) w568 (St.rdO (i := 0) hS571 rfl) (St.rdO (i := 16) hS571 rfl)) ?_)
                        rintro _ w593 ⟨rfl, he597⟩ a594 hE595; clear hE591
                        have hS596 := St.go hS571 he597; clear hS571
                        refine q_step (v := .bool (!(decide (((F_GreatestBisimulation mp0 mp1 mp2 np0 np1 np2).1) = ((F_s_GreatestBisimulation mp0 mp1 mp2 np0 np1 np2).1))))) hE595 (y_not rfl) rfl rfl rfl ?_; intro a598 hE599; clear hE595
                        refine q_step (v := .bool (!(decide (((F_GreatestBisimulation mp0 mp1 mp2 np0 np1 np2).1) = ((F_s_GreatestBisimulation mp0 mp1 mp2 np0 np1 np2).1))))) hE599 (y_move rfl) rfl rfl rfl ?_; intro a600 hE601; clear hE599
                        rcases Bool.eq_false_or_eq_true (!(decide (((F_GreatestBisimulation mp0 mp1 mp2 np0 np1 np2).1) = ((F_s_GreatestBisimulation mp0 mp1 mp2 np0 np1 np2).1)))) with hb602 | hb602
                        ·
                          have hE603 := hE601; (try rw [hb602] at hE603); clear hE601
                          have ht604 := bn_t hb602
                          have hp605 := of_decide_eq_false ht604
                          refine q_skip hE603 rfl rfl rfl ?_; intro a606 hE607; clear hE603
                          refine q_skip hE607 rfl rfl rfl ?_; intro a608 hE609; clear hE607
                          refine q_skip hE609 rfl rfl rfl ?_; intro a610 hE611; clear hE609
                          refine q_step (v := .bool true) hE611 (y_pick (b := true) rfl rfl) rfl rfl rfl ?_; intro a612 hE613; clear hE611
                          refine c_nil ?_
                          have hE614 := hE613.sub (L' := [(10, .slice b192 (((F_GreatestBisimulation mp0 mp1 mp2 np0 np1 np2).1).length) c193), (13, .int .i64 (1 + (((F_GreatestBisimulation mp0 mp1 mp2 np0 np1 np2).1).length : Int))), (110, .bool true)]) ⟨rfl, rfl, rfl, trivial⟩; clear hE613
                          refine p_tn ?_
                          have hE615 := hE614.sub (L' := [(10, .slice b192 (((F_GreatestBisimulation mp0 mp1 mp2 np0 np1 np2).1).length) c193), (13, .int .i64 (1 + (((F_GreatestBisimulation mp0 mp1 mp2 np0 np1 np2).1).length : Int))), (110, .bool true)]) ⟨rfl, rfl, rfl, trivial⟩
                          have hS616 := (St.pick (Γ' := [.own 2 1 b573 (((F_GreatestBisimulation mp0 mp1 mp2 np0 np1 np2).1).length) c574 ((F_GreatestBisimulation mp0 mp1 mp2 np0 np1 np2).1), .own 2 1 b561 ((np1).length) c562 np1, .own 2 1 b563 ((np2).length) c564 np2, .own 2 1 b549 ((mp1).length) c550 mp1, .own 2 1 b551 ((mp2).length) c552 mp2, .own 2 1 b192 (((F_GreatestBisimulation mp0 mp1 mp2 np0 np1 np2).1).length) c193 (marked ((F_GreatestBisimulation mp0 mp1 mp2 np0 np1 np2).1).length 1), .own 2 1 b165 ((np2).length) c166 (marked np2.length ((1 + (mp1.length : Int) + (mp2.length : Int)) + (np1.length : Int))), .own 2 1 b163 ((np1).length) c164 (marked np1.length (1 + (mp1.length : Int) + (mp2.length : Int))), .own 2 1 b138 ((mp2).length) c139 (marked mp2.length (1 + (mp1.length : Int))), .own 2 1 b136 ((mp1).length) c137 (marked mp1.length 1), .own 2 1 b318 ((np1).length) c319 np1, .own 2 1 b320 ((np2).length) c321 np2, .own 2 1 b280 ((mp1).length) c281 mp1, .own 2 1 b282 ((mp2).length) c283 mp2, .blk b169 #[.int .i64 np0, .slice b163 ((np1).length) c164, .slice b165 ((np2).length) c166] 32, .blk b142 #[.int .i64 mp0, .slice b136 ((mp1).length) c137, .slice b138 ((mp2).length) c139] 32, .own 2 1 b114 (((F_s_GreatestBisimulation mp0 mp1 mp2 np0 np1 np2).1).length) c115 ((F_s_GreatestBisimulation mp0 mp1 mp2 np0 np1 np2).1), .own 2 1 b102 ((np1).length) c103 np1, .own 2 1 b104 ((np2).length) c105 np2, .own 2 1 b90 ((mp1).length) c91 mp1, .own 2 1 b92 ((mp2).length) c93 mp2, .rd 1 np1A np1.length np1C np1, .rd 1 np2A np2.length np2C np2, .blk b11 #[.int .i64 np0, .slice np1A np1.length np1C, .slice np2A np2.length np2C] 26, .rd 1 mp1A mp1.length mp1C mp1, .rd 1 mp2A mp2.length mp2C mp2, .blk b5 #[.int .i64 mp0, .slice mp1A mp1.length mp1C, .slice mp2A mp2.length mp2C] 26]) hS596 [0, 1, 2, 3, 4, 5, 6, 7, 8, 9, 10, 11, 12, 13, 14, 15, 16, 17, 18, 19, 20, 21, 22, 23, 24, 25, 26] (by decide) rfl)
                          exact ⟨(by rw [hb602]; exact hE615), hS616⟩
                        ·
                          have hE617 := hE601; (try rw [hb602] at hE617); clear hE601
                          have ht618 := bn_f hb602
                          have hp619 := of_decide_eq_true ht618
                          refine q_step (v := .int .i64 ((F_GreatestBisimulation mp0 mp1 mp2 np0 np1 np2).2)) hE617 (y_move rfl) rfl rfl rfl ?_; intro a620 hE621; clear hE617
                          refine q_step (v := .int .i64 ((F_s_GreatestBisimulation mp0 mp1 mp2 np0 np1 np2).2)) hE621 (y_move rfl) rfl rfl rfl ?_; intro a622 hE623; clear hE621
                          refine q_step (v := .bool (!decide (((F_GreatestBisimulation mp0 mp1 mp2 np0 np1 np2).2) = ((F_s_GreatestBisimulation mp0 mp1 mp2 np0 np1 np2).2)))) hE623 (y_neq rfl rfl) rfl rfl rfl ?_; intro a624 hE625; clear hE623
                          refine q_step (v := .bool (!decide (((F_GreatestBisimulation mp0 mp1 mp2 np0 np1 np2).2) = ((F_s_GreatestBisimulation mp0 mp1 mp2 np0 np1 np2).2)))) hE625 (y_pick (b := false) rfl rfl) rfl rfl rfl ?_; intro a626 hE627; clear hE625
                          refine c_nil ?_
                          have hE628 := hE627.sub (L' := [(10, .slice b192 (((F_GreatestBisimulation mp0 mp1 mp2 np0 np1 np2).1).length) c193), (13, .int .i64 (1 + (((F_GreatestBisimulation mp0 mp1 mp2 np0 np1 np2).1).length : Int))), (110, .bool (!decide (((F_GreatestBisimulation mp0 mp1 mp2 np0 np1 np2).2) = ((F_s_GreatestBisimulation mp0 mp1 mp2 np0 np1 np2).2))))]) ⟨rfl, rfl, rfl, trivial⟩; clear hE627
                          refine p_tn ?_
                          have hE629 := hE628.sub (L' := [(10, .slice b192 (((F_GreatestBisimulation mp0 mp1 mp2 np0 np1 np2).1).length) c193), (13, .int .i64 (1 + (((F_GreatestBisimulation mp0 mp1 mp2 np0 np1 np2).1).length : Int))), (110, .bool (!decide (((F_GreatestBisimulation mp0 mp1 mp2 np0 np1 np2).2) = ((F_s_GreatestBisimulation mp0 mp1 mp2 np0 np1 np2).2))))]) ⟨rfl, rfl, rfl, trivial⟩
                          have hS630 := (St.pick (Γ' := [.own 2 1 b573 (((F_GreatestBisimulation mp0 mp1 mp2 np0 np1 np2).1).length) c574 ((F_GreatestBisimulation mp0 mp1 mp2 np0 np1 np2).1), .own 2 1 b561 ((np1).length) c562 np1, .own 2 1 b563 ((np2).length) c564 np2, .own 2 1 b549 ((mp1).length) c550 mp1, .own 2 1 b551 ((mp2).length) c552 mp2, .own 2 1 b192 (((F_GreatestBisimulation mp0 mp1 mp2 np0 np1 np2).1).length) c193 (marked ((F_GreatestBisimulation mp0 mp1 mp2 np0 np1 np2).1).length 1), .own 2 1 b165 ((np2).length) c166 (marked np2.length ((1 + (mp1.length : Int) + (mp2.length : Int)) + (np1.length : Int))), .own 2 1 b163 ((np1).length) c164 (marked np1.length (1 + (mp1.length : Int) + (mp2.length : Int))), .own 2 1 b138 ((mp2).length) c139 (marked mp2.length (1 + (mp1.length : Int))), .own 2 1 b136 ((mp1).length) c137 (marked mp1.length 1), .own 2 1 b318 ((np1).length) c319 np1, .own 2 1 b320 ((np2).length) c321 np2, .own 2 1 b280 ((mp1).length) c281 mp1, .own 2 1 b282 ((mp2).length) c283 mp2, .blk b169 #[.int .i64 np0, .slice b163 ((np1).length) c164, .slice b165 ((np2).length) c166] 32, .blk b142 #[.int .i64 mp0, .slice b136 ((mp1).length) c137, .slice b138 ((mp2).length) c139] 32, .own 2 1 b114 (((F_s_GreatestBisimulation mp0 mp1 mp2 np0 np1 np2).1).length) c115 ((F_s_GreatestBisimulation mp0 mp1 mp2 np0 np1 np2).1), .own 2 1 b102 ((np1).length) c103 np1, .own 2 1 b104 ((np2).length) c105 np2, .own 2 1 b90 ((mp1).length) c91 mp1, .own 2 1 b92 ((mp2).length) c93 mp2, .rd 1 np1A np1.length np1C np1, .rd 1 np2A np2.length np2C np2, .blk b11 #[.int .i64 np0, .slice np1A np1.length np1C, .slice np2A np2.length np2C] 26, .rd 1 mp1A mp1.length mp1C mp1, .rd 1 mp2A mp2.length mp2C mp2, .blk b5 #[.int .i64 mp0, .slice mp1A mp1.length mp1C, .slice mp2A mp2.length mp2C] 26]) hS596 [0, 1, 2, 3, 4, 5, 6, 7, 8, 9, 10, 11, 12, 13, 14, 15, 16, 17, 18, 19, 20, 21, 22, 23, 24, 25, 26] (by decide) rfl)
                          exact ⟨(by rw [hb602]; exact hE629), hS630⟩
                      ·
                        rintro a631 w632 ⟨hE633, hS634⟩; clear hE587 hS571
                        have hE636 := hE633; rw [ht255] at hE636; clear hE633
                        refine c_false hE636 rfl ?_
                        refine wp_skip ?_
                        refine p_tn ?_
                        refine c_seq ?_
                        refine c_reg ?_
                        refine q_step (v := .int .i64 1) hE636 (y_assign rfl) rfl rfl rfl ?_; intro a637 hE638; clear hE636
                        refine c_nil ?_
                        have hE639 := hE638.sub (L' := [(10, .slice b192 (((F_GreatestBisimulation mp0 mp1 mp2 np0 np1 np2).1).length) c193), (13, .int .i64 (1 + (((F_GreatestBisimulation mp0 mp1 mp2 np0 np1 np2).1).length : Int))), (14, .int .i64 1)]) ⟨rfl, rfl, rfl, trivial⟩; clear hE638
                        refine p_tn ?_
                        refine c_seq ?_
                        refine c_reg ?_
                        refine q_step (v := .slice b192 (((F_GreatestBisimulation mp0 mp1 mp2 np0 np1 np2).1).length) c193) hE639 (y_move rfl) rfl rfl rfl ?_; intro a640 hE641; clear hE639
                        refine q_step (v := .int .i64 1) hE641 (y_move rfl) rfl rfl rfl ?_; intro a642 hE643; clear hE641
                        refine l_step hE643 rfl (l_call (f := 23) (argv := [.slice b192 (((F_GreatestBisimulation mp0 mp1 mp2 np0 np1 np2).1).length) c193, .int .i64 1]) hE643 (fun _ => cf_l_heldInt64S _ _) rfl rfl (c_l_heldInt64S b192 (((F_GreatestBisimulation mp0 mp1 mp2 np0 np1 np2).1).length) c193 (marked ((F_GreatestBisimulation mp0 mp1 mp2 np0 np1 np2).1).length 1) 1 w632 (St.rdO (i := 5) hS634 rfl) (by first | omega | (simp only [marked_len]; omega) | (simp only [marked_len] at *; omega)) (by first | omega | (simp only [marked_len]; omega) | (simp only [marked_len] at *; omega)) (by first | omega | (simp only [marked_len]; omega) | (simp only [marked_len] at *; omega))) ?_)
                        rintro _ w645 ⟨rfl, he649⟩ a646 hE647; clear hE643
                        have hS648 := St.go hS634 he649; clear hS634
                        refine q_step (v := .int .i64 (F_l_heldInt64S (marked ((F_GreatestBisimulation mp0 mp1 mp2 np0 np1 np2).1).length 1) 1)) hE647 (y_assign rfl) rfl rfl rfl ?_; intro a650 hE651; clear hE647
                        refine c_nil ?_
                        have hE652 := hE651.sub (L' := [(13, .int .i64 (1 + (((F_GreatestBisimulation mp0 mp1 mp2 np0 np1 np2).1).length : Int))), (14, .int .i64 (F_l_heldInt64S (marked ((F_GreatestBisimulation mp0 mp1 mp2 np0 np1 np2).1).length 1) 1))]) ⟨rfl, rfl, trivial⟩; clear hE651
                        refine p_tn ?_
                        refine c_seq ?_
                        refine c_seq ?_
                        refine c_reg ?_
                        refine q_step (v := .int .i64 (F_l_heldInt64S (marked ((F_GreatestBisimulation mp0 mp1 mp2 np0 np1 np2).1).length 1) 1)) hE652 (y_move rfl) rfl rfl rfl ?_; intro a653 hE654; clear hE652
                        refine q_step (v := .bool (decide ((F_l_heldInt64S (marked ((F_GreatestBisimulation mp0 mp1 mp2 np0 np1 np2).1).length 1) 1) < 0))) hE654 (y_lss rfl rfl) rfl rfl rfl ?_; intro a655 hE656; clear hE654
                        refine c_nil ?_
                        have hE657 := hE656.sub (L' := [(13, .int .i64 (1 + (((F_GreatestBisimulation mp0 mp1 mp2 np0 np1 np2).1).length : Int))), (14, .int .i64 (F_l_heldInt64S (marked ((F_GreatestBisimulation mp0 mp1 mp2 np0 np1 np2).1).length 1) 1)), (115, .bool (decide ((F_l_heldInt64S (marked ((F_GreatestBisimulation mp0 mp1 mp2 np0 np1 np2).1).length 1) 1) < 0)))]) ⟨rfl, rfl, rfl, trivial⟩; clear hE656
                        refine p_tn ?_
                        have hE658 := hE657; rw [ht511] at hE658; clear hE657
                        refine c_false hE658 rfl ?_
                        refine wp_skip ?_
                        refine p_tn ?_
                        refine c_seq ?_
                        refine c_seq ?_
                        refine c_reg ?_
                        refine q_step (v := .int .i64 (F_l_heldInt64S (marked ((F_GreatestBisimulation mp0 mp1 mp2 np0 np1 np2).1).length 1) 1)) hE658 (y_move rfl) rfl rfl rfl ?_; intro a659 hE660; clear hE658
                        refine q_step (v := .int .i64 (1 + (((F_GreatestBisimulation mp0 mp1 mp2 np0 np1 np2).1).length : Int))) hE660 (y_move rfl) rfl rfl rfl ?_; intro a661 hE662; clear hE660
                        refine q_step (v := .bool (!decide ((F_l_heldInt64S (marked ((F_GreatestBisimulation mp0 mp1 mp2 np0 np1 np2).1).length 1) 1) = (1 + (((F_GreatestBisimulation mp0 mp1 mp2 np0 np1 np2).1).length : Int))))) hE662 (y_neq rfl rfl) rfl rfl rfl ?_; intro a663 hE664; clear hE662
                        refine c_nil ?_
                        have hE665 := hE664.sub (L' := [(118, .bool (!decide ((F_l_heldInt64S (marked ((F_GreatestBisimulation mp0 mp1 mp2 np0 np1 np2).1).length 1) 1) = (1 + (((F_GreatestBisimulation mp0 mp1 mp2 np0 np1 np2).1).length : Int)))))]) ⟨rfl, trivial⟩; clear hE664
                        refine p_tn ?_
                        have hE666 := hE665; rw [ht526] at hE666; clear hE665
                        refine c_false hE666 rfl ?_
                        refine wp_skip ?_
                        refine p_tn ?_
                        refine c_seq ?_
                        refine c_reg ?_
                        refine q_step (v := .bool true) hE666 (y_assign rfl) rfl rfl rfl ?_; intro a667 hE668; clear hE666
                        refine c_nil ?_
                        have hE669 := hE668.sub (L' := [(4, .bool true)]) ⟨rfl, trivial⟩; clear hE668
                        refine p_tn ?_
                        refine wp_ret ?_
                        have hF : F_l_FnExactGreatestBisimulation mp0 mp1 mp2 np0 np1 np2 = true := by unfold F_l_FnExactGreatestBisimulation; rw [ht526, ht511, ht458, ht333, ht295, ht255, ht68, ht41]; first | done | rfl
                        refine c_ret1 hE669 rfl rfl ?_
                        exact ⟨(by rw [hF]; first | done | (dsimp only; done) | rfl), hS648.ext⟩

theorem FnExactGreatestBisimulation_true (mp0 : Int) (mp1 mp2 : List Int) (np0 : Int) (np1 np2 : List Int) : F_l_FnExactGreatestBisimulation mp0 mp1 mp2 np0 np1 np2 = true := by
  unfold F_l_FnExactGreatestBisimulation
  rw [(GreatestBisimulation_eq mp0 mp1 mp2 np0 np1 np2).1, heldI_eq]
  have h1 : decide (1 + (mp1.length : Int) + (mp2.length : Int) + (np1.length : Int) + (np2.length : Int) < 0) = false := decide_eq_false (by omega)
  have h2 : decide ((1 : Int) + ((F_s_GreatestBisimulation mp0 mp1 mp2 np0 np1 np2).1.length : Int) < 0) = false := decide_eq_false (by omega)
  simp [h1, h2]


end Go.Proofs.Ytlbonhloeefnmaa
