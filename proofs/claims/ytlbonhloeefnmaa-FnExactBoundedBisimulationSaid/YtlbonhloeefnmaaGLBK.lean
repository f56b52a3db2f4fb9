/- GLBK: models and contracts, printed by wip/gen/gen.py -/
import Derived.Test.YtlbonhloeefnmaaGAM
import Derived.Test.YtlbonhloeefnmaaGBK
set_option linter.unusedVariables false
set_option linter.unusedSimpArgs false
namespace Go.Proofs.Ytlbonhloeefnmaa
open Go.RowKit

def F_l_FnExactBoundedBisimulation (mp0 : Int) (mp1 : List Int) (mp2 : List Int) (np0 : Int) (np1 : List Int) (np2 : List Int) (kq : Int) : Bool :=
  bif (decide ((F_l_szModel mp0 mp1 mp2 1048576) < 0)) then true else (bif (decide ((F_l_szModel np0 np1 np2 (F_l_szModel mp0 mp1 mp2 1048576)) < 0)) then true else (bif ((!(decide (((F_BoundedBisimulation mp0 mp1 mp2 np0 np1 np2 kq).1) = ((F_s_BoundedBisimulation mp0 mp1 mp2 np0 np1 np2 kq).1)))) || (!decide (((F_BoundedBisimulation mp0 mp1 mp2 np0 np1 np2 kq).2) = ((F_s_BoundedBisimulation mp0 mp1 mp2 np0 np1 np2 kq).2)))) then false else (bif (!(decide ((mp0, mp1, mp2) = (mp0, mp1, mp2)))) then false else (bif (!(decide ((np0, np1, np2) = (np0, np1, np2)))) then false else (bif ((decide (((1 + (mp1.length : Int) + (mp2.length : Int)) + (np1.length : Int) + (np2.length : Int)) < 0)) || ((!(decide (((F_BoundedBisimulation mp0 mp1 mp2 np0 np1 np2 kq).1) = ((F_s_BoundedBisimulation mp0 mp1 mp2 np0 np1 np2 kq).1)))) || (!decide (((F_BoundedBisimulation mp0 mp1 mp2 np0 np1 np2 kq).2) = ((F_s_BoundedBisimulation mp0 mp1 mp2 np0 np1 np2 kq).2))))) then false else (bif (decide ((F_l_heldInt64S (marked ((F_BoundedBisimulation mp0 mp1 mp2 np0 np1 np2 kq).1).length 1) 1) < 0)) then false else (bif (!decide ((F_l_heldInt64S (marked ((F_BoundedBisimulation mp0 mp1 mp2 np0 np1 np2 kq).1).length 1) 1) = (1 + (((F_BoundedBisimulation mp0 mp1 mp2 np0 np1 np2 kq).1).length : Int)))) then false else true)))))))
theorem cf_l_FnExactBoundedBisimulation (args : Array Value) (w : World) : (callFunc 4 args).run Try.prog w = .ok (.enter 4 args) w := by kernel_rfl
set_option maxRecDepth 100000 in
theorem c_l_FnExactBoundedBisimulation (mp0 : Int) (mp1A : Option Addr) (mp1N mp1C : Nat) (mp1 : List Int) (mp2A : Option Addr) (mp2N mp2C : Nat) (mp2 : List Int) (np0 : Int) (np1A : Option Addr) (np1N np1C : Nat) (np1 : List Int) (np2A : Option Addr) (np2N np2C : Nat) (np2 : List Int) (kq : Int) (w : World) (mp1R : RdS w 1 mp1A mp1N mp1C mp1) (mp2R : RdS w 1 mp2A mp2N mp2C mp2) (np1R : RdS w 1 np1A np1N np1C np1) (np2R : RdS w 1 np2A np2N np2C np2) :
    Calls Try.prog 4 #[.agg #[.int .i64 mp0, .slice mp1A mp1N mp1C, .slice mp2A mp2N mp2C], .agg #[.int .i64 np0, .slice np1A np1N np1C, .slice np2A np2N np2C], .int .i64 kq] w (Ret fun v w' => v = .bool (F_l_FnExactBoundedBisimulation mp0 mp1 mp2 np0 np1 np2 kq) ∧ Ext w w') := by
  obtain rfl : mp1N = mp1.length := mp1R.len1.symm
  have mp1Le := mp1R.le
  obtain rfl : mp2N = mp2.length := mp2R.len1.symm
  have mp2Le := mp2R.le
  obtain rfl : np1N = np1.length := np1R.len1.symm
  have np1Le := np1R.le
  obtain rfl : np2N = np2.length := np2R.len1.symm
  have np2Le := np2R.le
  have hS := St.nil w
  have hS1 := St.rd0 hS rfl mp1R; clear hS
  have hS2 := St.rd0 hS1 rfl mp2R; clear hS1
  have hS3 := St.rd0 hS2 rfl np1R; clear hS2
  have hS4 := St.rd0 hS3 rfl np2R; clear hS3
  refine enter (args := [.agg #[.int .i64 mp0, .slice mp1A mp1.length mp1C, .slice mp2A mp2.length mp2C], .agg #[.int .i64 np0, .slice np1A np1.length np1C, .slice np2A np2.length np2C], .int .i64 kq]) Try.func4 rfl rfl ?_
  rw [Try.ntmps4]; intro a hE
  have hE := hE.sub (L' := [(0, .agg #[.int .i64 mp0, .slice mp1A mp1.length mp1C, .slice mp2A mp2.length mp2C]), (1, .agg #[.int .i64 np0, .slice np1A np1.length np1C, .slice np2A np2.length np2C]), (2, .int .i64 kq)]) ⟨rfl, rfl, rfl, trivial⟩
  refine c_seq ?_
  refine c_reg ?_
  refine l_step hE rfl (l_box (v := .agg #[.int .i64 mp0, .slice mp1A mp1.length mp1C, .slice mp2A mp2.length mp2C]) (cs := #[.int .i64 mp0, .slice mp1A mp1.length mp1C, .slice mp2A mp2.length mp2C]) hS4 hE rfl rfl rfl ?_)
  intro b5 w6 hS9 he10 a7 hE8; clear hS4 hE
  refine l_step hE8 rfl (l_box (v := .agg #[.int .i64 np0, .slice np1A np1.length np1C, .slice np2A np2.length np2C]) (cs := #[.int .i64 np0, .slice np1A np1.length np1C, .slice np2A np2.length np2C]) hS9 hE8 rfl rfl rfl ?_)
  intro b11 w12 hS15 he16 a13 hE14; clear hS9 hE8
  refine q_step (v := .bool false) hE14 (y_assign rfl) rfl rfl rfl ?_; intro a17 hE18; clear hE14
  refine c_nil ?_
  have hE19 := hE18.sub (L' := [(2, .int .i64 kq), (3, .pointer (some ⟨b5, 0, none⟩)), (4, .pointer (some ⟨b11, 0, none⟩))]) ⟨rfl, rfl, rfl, trivial⟩; clear hE18
  refine p_tn ?_
  refine c_seq ?_
  refine c_reg ?_
  refine q_step (v := .int .i64 1048576) hE19 (y_assign rfl) rfl rfl rfl ?_; intro a20 hE21; clear hE19
  refine c_nil ?_
  have hE22 := hE21.sub (L' := [(2, .int .i64 kq), (3, .pointer (some ⟨b5, 0, none⟩)), (4, .pointer (some ⟨b11, 0, none⟩)), (7, .int .i64 1048576)]) ⟨rfl, rfl, rfl, rfl, trivial⟩; clear hE21
  refine p_tn ?_
  refine c_seq ?_
  refine c_reg ?_
  refine q_step (v := .agg #[.int .i64 mp0, .slice mp1A mp1.length mp1C, .slice mp2A mp2.length mp2C]) hE22 (y_loadS Try.underlying26 rfl (by kernel_rfl) rfl (St.row (i := 1) hS15 rfl)) rfl rfl rfl ?_; intro a23 hE24; clear hE22
  refine q_step (v := .int .i64 1048576) hE24 (y_move rfl) rfl rfl rfl ?_; intro a25 hE26; clear hE24
  refine l_step hE26 rfl (l_call (f := 15) (argv := [.agg #[.int .i64 mp0, .slice mp1A mp1.length mp1C, .slice mp2A mp2.length mp2C], .int .i64 1048576]) hE26 (fun _ => cf_l_szModel _ _) rfl rfl (c_l_szModel mp0 mp1A mp1.length mp1C mp1 mp2A mp2.length mp2C mp2 1048576 w12 (St.rdR (i := 5) hS15 rfl) (St.rdR (i := 4) hS15 rfl) (by first | omega | (simp only [marked_len]; omega) | (simp only [marked_len] at *; omega)) (by first | omega | (simp only [marked_len]; omega) | (simp only [marked_len] at *; omega))) ?_)
  rintro _ w28 ⟨rfl, he32⟩ a29 hE30; clear hE26
  have hS31 := St.go hS15 he32; clear hS15
  refine q_step (v := .int .i64 (F_l_szModel mp0 mp1 mp2 1048576)) hE30 (y_assign rfl) rfl rfl rfl ?_; intro a33 hE34; clear hE30
  refine c_nil ?_
  have hE35 := hE34.sub (L' := [(2, .int .i64 kq), (3, .pointer (some ⟨b5, 0, none⟩)), (4, .pointer (some ⟨b11, 0, none⟩)), (7, .int .i64 (F_l_szModel mp0 mp1 mp2 1048576))]) ⟨rfl, rfl, rfl, rfl, trivial⟩; clear hE34
  refine p_tn ?_
  refine c_seq ?_
  refine c_seq ?_
  refine c_reg ?_
  refine q_step (v := .int .i64 (F_l_szModel mp0 mp1 mp2 1048576)) hE35 (y_move rfl) rfl rfl rfl ?_; intro a36 hE37; clear hE35
  refine q_step (v := .bool (decide ((F_l_szModel mp0 mp1 mp2 1048576) < 0))) hE37 (y_lss rfl rfl) rfl rfl rfl ?_; intro a38 hE39; clear hE37
  refine c_nil ?_
  have hE40 := hE39.sub (L' := [(2, .int .i64 kq), (3, .pointer (some ⟨b5, 0, none⟩)), (4, .pointer (some ⟨b11, 0, none⟩)), (7, .int .i64 (F_l_szModel mp0 mp1 mp2 1048576)), (23, .bool (decide ((F_l_szModel mp0 mp1 mp2 1048576) < 0)))]) ⟨rfl, rfl, rfl, rfl, rfl, trivial⟩; clear hE39
  refine p_tn ?_
  refine c_cond hE40 rfl (fun ht41 => ?_) (fun ht41 => ?_)
  ·
    have hp42 := of_decide_eq_true ht41
    have hE43 := hE40; rw [ht41] at hE43; clear hE40
    refine c_seq ?_
    refine c_reg ?_
    refine q_step (v := .bool true) hE43 (y_assign rfl) rfl rfl rfl ?_; intro a44 hE45; clear hE43
    refine c_nil ?_
    have hE46 := hE45.sub (L' := [(6, .bool true)]) ⟨rfl, trivial⟩; clear hE45
    refine p_tn ?_
    refine wp_ret ?_
    refine p_tr ?_
    have hF : F_l_FnExactBoundedBisimulation mp0 mp1 mp2 np0 np1 np2 kq = true := by unfold F_l_FnExactBoundedBisimulation; rw [ht41]; first | done | rfl
    refine c_ret1 hE46 rfl rfl ?_
    exact ⟨(by rw [hF]; first | done | (dsimp only; done) | rfl), hS31.ext⟩
  ·
    have hp47 := of_decide_eq_false ht41
    have hq48 := szModel_bound hp47
    have hE49 := hE40; rw [ht41] at hE49; clear hE40
    refine wp_skip ?_
    refine p_tn ?_
    refine c_seq ?_
    refine c_reg ?_
    refine q_step (v := .agg #[.int .i64 np0, .slice np1A np1.length np1C, .slice np2A np2.length np2C]) hE49 (y_loadS Try.underlying26 rfl (by kernel_rfl) rfl (St.row (i := 0) hS31 rfl)) rfl rfl rfl ?_; intro a50 hE51; clear hE49
    refine q_step (v := .int .i64 (F_l_szModel mp0 mp1 mp2 1048576)) hE51 (y_move rfl) rfl rfl rfl ?_; intro a52 hE53; clear hE51
    refine l_step hE53 rfl (l_call (f := 15) (argv := [.agg #[.int .i64 np0, .slice np1A np1.length np1C, .slice np2A np2.length np2C], .int .i64 (F_l_szModel mp0 mp1 mp2 1048576)]) hE53 (fun _ => cf_l_szModel _ _) rfl rfl (c_l_szModel np0 np1A np1.length np1C np1 np2A np2.length np2C np2 (F_l_szModel mp0 mp1 mp2 1048576) w28 (St.rdR (i := 3) hS31 rfl) (St.rdR (i := 2) hS31 rfl) (by first | omega | (simp only [marked_len]; omega) | (simp only [marked_len] at *; omega)) (by first | omega | (simp only [marked_len]; omega) | (simp only [marked_len] at *; omega))) ?_)
    rintro _ w55 ⟨rfl, he59⟩ a56 hE57; clear hE53
    have hS58 := St.go hS31 he59; clear hS31
    refine q_step (v := .int .i64 (F_l_szModel np0 np1 np2 (F_l_szModel mp0 mp1 mp2 1048576))) hE57 (y_assign rfl) rfl rfl rfl ?_; intro a60 hE61; clear hE57
    refine c_nil ?_
    have hE62 := hE61.sub (L' := [(2, .int .i64 kq), (3, .pointer (some ⟨b5, 0, none⟩)), (4, .pointer (some ⟨b11, 0, none⟩)), (7, .int .i64 (F_l_szModel np0 np1 np2 (F_l_szModel mp0 mp1 mp2 1048576)))]) ⟨rfl, rfl, rfl, rfl, trivial⟩; clear hE61
    refine p_tn ?_
    refine c_seq ?_
    refine c_seq ?_
    refine c_reg ?_
    refine q_step (v := .int .i64 (F_l_szModel np0 np1 np2 (F_l_szModel mp0 mp1 mp2 1048576))) hE62 (y_move rfl) rfl rfl rfl ?_; intro a63 hE64; clear hE62
    refine q_step (v := .bool (decide ((F_l_szModel np0 np1 np2 (F_l_szModel mp0 mp1 mp2 1048576)) < 0))) hE64 (y_lss rfl rfl) rfl rfl rfl ?_; intro a65 hE66; clear hE64
    refine c_nil ?_
    have hE67 := hE66.sub (L' := [(2, .int .i64 kq), (3, .pointer (some ⟨b5, 0, none⟩)), (4, .pointer (some ⟨b11, 0, none⟩)), (28, .bool (decide ((F_l_szModel np0 np1 np2 (F_l_szModel mp0 mp1 mp2 1048576)) < 0)))]) ⟨rfl, rfl, rfl, rfl, trivial⟩; clear hE66
    refine p_tn ?_
    refine c_cond hE67 rfl (fun ht68 => ?_) (fun ht68 => ?_)
    ·
      have hp69 := of_decide_eq_true ht68
      have hE70 := hE67; rw [ht68] at hE70; clear hE67
      refine c_seq ?_
      refine c_reg ?_
      refine q_step (v := .bool true) hE70 (y_assign rfl) rfl rfl rfl ?_; intro a71 hE72; clear hE70
      refine c_nil ?_
      have hE73 := hE72.sub (L' := [(6, .bool true)]) ⟨rfl, trivial⟩; clear hE72
      refine p_tn ?_
      refine wp_ret ?_
      refine p_tr ?_
      have hF : F_l_FnExactBoundedBisimulation mp0 mp1 mp2 np0 np1 np2 kq = true := by unfold F_l_FnExactBoundedBisimulation; rw [ht68, ht41]; first | done | rfl
      refine c_ret1 hE73 rfl rfl ?_
      exact ⟨(by rw [hF]; first | done | (dsimp only; done) | rfl), hS58.ext⟩
    ·
      have hp74 := of_decide_eq_false ht68
      have hq75 := szModel_bound hp74
      have hE76 := hE67; rw [ht68] at hE76; clear hE67
      refine wp_skip ?_
      refine p_tn ?_
      refine c_seq ?_
      refine d_start (fun w w' => (fun w' => w'.heap[b5]? = some (.cells #[.int .i64 mp0, .slice mp1A mp1.length mp1C, .slice mp2A mp2.length mp2C] 26 (0, 0)) ∧ w'.heap[b11]? = some (.cells #[.int .i64 np0, .slice np1A np1.length np1C, .slice np2A np2.length np2C] 26 (0, 0)) ∧ True) w → (fun w' => w'.heap[b5]? = some (.cells #[.int .i64 mp0, .slice mp1A mp1.length mp1C, .slice mp2A mp2.length mp2C] 26 (0, 0)) ∧ w'.heap[b11]? = some (.cells #[.int .i64 np0, .slice np1A np1.length np1C, .slice np2A np2.length np2C] 26 (0, 0)) ∧ True) w') [0, 2] 11 (by kernel_rfl) rfl ?_
      intro w77 he78; have hS79 := St.go hS58 he78; clear hS58
      refine d_take (fun _ h => h) (fun _ _ h k => h k) (v := .agg #[.int .i64 mp0, .slice mp1A mp1.length mp1C, .slice mp2A mp2.length mp2C]) 0 rfl hE76 (S := fun w' => w'.heap[b5]? = some (.cells #[.int .i64 mp0, .slice mp1A mp1.length mp1C, .slice mp2A mp2.length mp2C] 26 (0, 0)) ∧ w'.heap[b11]? = some (.cells #[.int .i64 np0, .slice np1A np1.length np1C, .slice np2A np2.length np2C] 26 (0, 0)) ∧ True) ⟨(St.row (i := 1) hS79 rfl _ (Ext.refl _)), (St.row (i := 0) hS79 rfl _ (Ext.refl _)), trivial⟩ (y_loadS Try.underlying26 rfl (by kernel_rfl) rfl (fun _ h => h.1)) rfl rfl (by kernel_rfl) (by kernel_rfl) (by kernel_rfl) (by kernel_rfl) rfl rfl (fun _ _ _ h => h) ?_; intro a80 hE81; clear hE76
      refine d_take (fun _ h => h) (fun _ _ h k => h k) (v := .agg #[.int .i64 np0, .slice np1A np1.length np1C, .slice np2A np2.length np2C]) 2 rfl hE81 (S := fun w' => w'.heap[b5]? = some (.cells #[.int .i64 mp0, .slice mp1A mp1.length mp1C, .slice mp2A mp2.length mp2C] 26 (0, 0)) ∧ w'.heap[b11]? = some (.cells #[.int .i64 np0, .slice np1A np1.length np1C, .slice np2A np2.length np2C] 26 (0, 0)) ∧ True) ⟨(St.row (i := 1) hS79 rfl _ (Ext.refl _)), (St.row (i := 0) hS79 rfl _ (Ext.refl _)), trivial⟩ (y_loadS Try.underlying26 rfl (by kernel_rfl) rfl (fun _ h => h.2.1)) rfl rfl (by kernel_rfl) (by kernel_rfl) (by kernel_rfl) (by kernel_rfl) rfl rfl (fun _ _ _ h => h) ?_; intro a82 hE83; clear hE81
      refine d_pure (fun _ h => h) (v := .int .i64 kq) 4 rfl hE83 (y_move rfl) rfl (by kernel_rfl) (by kernel_rfl) (by kernel_rfl) rfl rfl (fun _ _ _ h => h) ?_; intro a84 hE85; clear hE83
      refine d_only 1 (by kernel_rfl) rfl hE85 rfl (l_call (f := 17) (argv := [.agg #[.int .i64 mp0, .slice mp1A mp1.length mp1C, .slice mp2A mp2.length mp2C]]) hE85 (fun _ => cf_l_toModel _ _) rfl rfl (d_l_toModel mp0 mp1A mp1.length mp1C mp1 mp2A mp2.length mp2C mp2 w77 (St.rdR (i := 5) hS79 rfl) (St.rdR (i := 4) hS79 rfl) (by first | omega | (simp only [marked_len]; omega) | (simp only [marked_len] at *; omega)) (by first | omega | (simp only [marked_len]; omega) | (simp only [marked_len] at *; omega))) ?_)
      rintro _ w87 ⟨b92, c93, b94, c95, rfl, ho96, he91⟩ a88 hE89; clear hE85
      have hS90 := St.push2 hS79 he91 ho96; clear hS79
      refine ⟨fun _ _ => ⟨(St.row (i := 3) hS90 rfl _ (Ext.refl _)), (St.row (i := 2) hS90 rfl _ (Ext.refl _)), trivial⟩, ?_⟩
      refine d_only 3 (by kernel_rfl) rfl hE89 rfl (l_call (f := 17) (argv := [.agg #[.int .i64 np0, .slice np1A np1.length np1C, .slice np2A np2.length np2C]]) hE89 (fun _ => cf_l_toModel _ _) rfl rfl (d_l_toModel np0 np1A np1.length np1C np1 np2A np2.length np2C np2 w87 (St.rdR (i := 5) hS90 rfl) (St.rdR (i := 4) hS90 rfl) (by first | omega | (simp only [marked_len]; omega) | (simp only [marked_len] at *; omega)) (by first | omega | (simp only [marked_len]; omega) | (simp only [marked_len] at *; omega))) ?_)
      rintro _ w99 ⟨b104, c105, b106, c107, rfl, ho108, he103⟩ a100 hE101; clear hE89
      have hS102 := St.push2 hS90 he103 ho108; clear hS90
      refine ⟨fun h => Bool.noConfusion (h.symm.trans (show exm _ _ _ = true by kernel_rfl)), ?_⟩
      refine d_only 5 (by kernel_rfl) rfl hE101 rfl (l_call (f := 24) (argv := [.agg #[.int .i64 mp0, .slice b92 ((mp1).length) c93, .slice b94 ((mp2).length) c95], .agg #[.int .i64 np0, .slice b104 ((np1).length) c105, .slice b106 ((np2).length) c107], .int .i64 kq]) hE101 (fun _ => cf_s_BoundedBisimulation _ _) rfl rfl (c_s_BoundedBisimulation mp0 b92 ((mp1).length) c93 mp1 b94 ((mp2).length) c95 mp2 np0 b104 ((np1).length) c105 np1 b106 ((np2).length) c107 np2 kq w99 (St.rdO (i := 2) hS102 rfl) (St.rdO (i := 3) hS102 rfl) (St.rdO (i := 0) hS102 rfl) (St.rdO (i := 1) hS102 rfl)) ?_)
      rintro _ w111 ⟨b116, c117, rfl, ho118, he115⟩ a112 hE113; clear hE101
      have hS114 := St.own hS102 he115 ho118; clear hS102
      refine ⟨fun h => Bool.noConfusion (h.symm.trans (show exm _ _ _ = true by kernel_rfl)), ?_⟩
      refine d_pure (fun _ h => h) (v := .tuple #[.slice b116 (((F_s_BoundedBisimulation mp0 mp1 mp2 np0 np1 np2 kq).1).length) c117, .int .i64 ((F_s_BoundedBisimulation mp0 mp1 mp2 np0 np1 np2 kq).2)]) 6 rfl hE113 (y_move rfl) rfl (by kernel_rfl) (by kernel_rfl) (by kernel_rfl) rfl rfl (fun _ _ _ h => h) ?_; intro a119 hE120; clear hE113
      refine d_pure (fun _ h => h) (v := .slice b116 (((F_s_BoundedBisimulation mp0 mp1 mp2 np0 np1 np2 kq).1).length) c117) 7 rfl hE120 (y_extract rfl rfl) rfl (by kernel_rfl) (by kernel_rfl) (by kernel_rfl) rfl rfl (fun _ _ _ h => h) ?_; intro a121 hE122; clear hE120
      refine d_pure (fun _ h => h) (v := .int .i64 ((F_s_BoundedBisimulation mp0 mp1 mp2 np0 np1 np2 kq).2)) 8 rfl hE122 (y_extract rfl rfl) rfl (by kernel_rfl) (by kernel_rfl) (by kernel_rfl) rfl rfl (fun _ _ _ h => h) ?_; intro a123 hE124; clear hE122
      refine d_pure (fun _ h => h) (v := .slice b116 (((F_s_BoundedBisimulation mp0 mp1 mp2 np0 np1 np2 kq).1).length) c117) 9 rfl hE124 (y_assign rfl) rfl (by kernel_rfl) (by kernel_rfl) (by kernel_rfl) rfl rfl (fun _ _ _ h => h) ?_; intro a125 hE126; clear hE124
      refine d_pure (fun _ h => h) (v := .int .i64 ((F_s_BoundedBisimulation mp0 mp1 mp2 np0 np1 np2 kq).2)) 10 rfl hE126 (y_assign rfl) rfl (by kernel_rfl) (by kernel_rfl) (by kernel_rfl) rfl rfl (fun _ _ _ h => h) ?_; intro a127 hE128; clear hE126
      refine d_done (by kernel_rfl) ?_
      have hE129 := hE128.sub (L' := [(2, .int .i64 kq), (3, .pointer (some ⟨b5, 0, none⟩)), (4, .pointer (some ⟨b11, 0, none⟩)), (8, .slice b116 (((F_s_BoundedBisimulation mp0 mp1 mp2 np0 np1 np2 kq).1).length) c117), (9, .int .i64 ((F_s_BoundedBisimulation mp0 mp1 mp2 np0 np1 np2 kq).2))]) ⟨rfl, rfl, rfl, rfl, rfl, trivial⟩; clear hE128
      refine p_tn ?_
      refine c_seq ?_
      refine c_reg ?_
      refine q_step (v := .agg #[.int .i64 mp0, .slice mp1A mp1.length mp1C, .slice mp2A mp2.length mp2C]) hE129 (y_loadS Try.underlying26 rfl (by kernel_rfl) rfl (St.row (i := 6) hS114 rfl)) rfl rfl rfl ?_; intro a130 hE131; clear hE129
      refine l_step hE131 rfl (l_call (f := 17) (argv := [.agg #[.int .i64 mp0, .slice mp1A mp1.length mp1C, .slice mp2A mp2.length mp2C]]) hE131 (fun _ => cf_l_toModel _ _) rfl rfl (d_l_toModel mp0 mp1A mp1.length mp1C mp1 mp2A mp2.length mp2C mp2 w111 (St.rdR (i := 10) hS114 rfl) (St.rdR (i := 9) hS114 rfl) (by first | omega | (simp only [marked_len]; omega) | (simp only [marked_len] at *; omega)) (by first | omega | (simp only [marked_len]; omega) | (simp only [marked_len] at *; omega))) ?_)
      rintro _ w133 ⟨b138, c139, b140, c141, rfl, ho142, he137⟩ a134 hE135; clear hE131
      have hS136 := St.push2 hS114 he137 ho142; clear hS114
      refine l_step hE135 rfl (l_alloc (z := .agg #[.int .i64 0, .slice none 0 0, .slice none 0 0]) (cs := #[.int .i64 0, .slice none 0 0, .slice none 0 0]) hS136 hE135 (fun _ => by kernel_rfl) rfl rfl ?_)
      intro b144 w145 hS148 he149 a146 hE147; clear hS136 hE135
      refine l_step hE147 rfl (l_storeS (k := 0) (cs' := #[.int .i64 mp0, .slice b138 ((mp1).length) c139, .slice b140 ((mp2).length) c141]) hS148 hE147 (by kernel_rfl) rfl rfl (by kernel_rfl) rfl rfl ?_)
      intro w151 hS154 a152 hE153; clear hS148 hE147
      refine c_nil ?_
      have hE156 := hE153.sub (L' := [(2, .int .i64 kq), (3, .pointer (some ⟨b5, 0, none⟩)), (4, .pointer (some ⟨b11, 0, none⟩)), (8, .slice b116 (((F_s_BoundedBisimulation mp0 mp1 mp2 np0 np1 np2 kq).1).length) c117), (9, .int .i64 ((F_s_BoundedBisimulation mp0 mp1 mp2 np0 np1 np2 kq).2)), (10, .pointer (some ⟨b144, 0, none⟩))]) ⟨rfl, rfl, rfl, rfl, rfl, rfl, trivial⟩; clear hE153
      refine p_tn ?_
      refine c_seq ?_
      refine c_reg ?_
      refine q_step (v := .agg #[.int .i64 np0, .slice np1A np1.length np1C, .slice np2A np2.length np2C]) hE156 (y_loadS Try.underlying26 rfl (by kernel_rfl) rfl (St.row (i := 8) hS154 rfl)) rfl rfl rfl ?_; intro a157 hE158; clear hE156
      refine l_step hE158 rfl (l_call (f := 17) (argv := [.agg #[.int .i64 np0, .slice np1A np1.length np1C, .slice np2A np2.length np2C]]) hE158 (fun _ => cf_l_toModel _ _) rfl rfl (d_l_toModel np0 np1A np1.length np1C np1 np2A np2.length np2C np2 w151 (St.rdR (i := 11) hS154 rfl) (St.rdR (i := 10) hS154 rfl) (by first | omega | (simp only [marked_len]; omega) | (simp only [marked_len] at *; omega)) (by first | omega | (simp only [marked_len]; omega) | (simp only [marked_len] at *; omega))) ?_)
      rintro _ w160 ⟨b165, c166, b167, c168, rfl, ho169, he164⟩ a161 hE162; clear hE158
      have hS163 := St.push2 hS154 he164 ho169; clear hS154
      refine l_step hE162 rfl (l_alloc (z := .agg #[.int .i64 0, .slice none 0 0, .slice none 0 0]) (cs := #[.int .i64 0, .slice none 0 0, .slice none 0 0]) hS163 hE162 (fun _ => by kernel_rfl) rfl rfl ?_)
      intro b171 w172 hS175 he176 a173 hE174; clear hS163 hE162
      refine l_step hE174 rfl (l_storeS (k := 0) (cs' := #[.int .i64 np0, .slice b165 ((np1).length) c166, .slice b167 ((np2).length) c168]) hS175 hE174 (by kernel_rfl) rfl rfl (by kernel_rfl) rfl rfl ?_)
      intro w178 hS181 a179 hE180; clear hS175 hE174
      refine c_nil ?_
      have hE183 := hE180.sub (L' := [(2, .int .i64 kq), (3, .pointer (some ⟨b5, 0, none⟩)), (4, .pointer (some ⟨b11, 0, none⟩)), (8, .slice b116 (((F_s_BoundedBisimulation mp0 mp1 mp2 np0 np1 np2 kq).1).length) c117), (9, .int .i64 ((F_s_BoundedBisimulation mp0 mp1 mp2 np0 np1 np2 kq).2)), (10, .pointer (some ⟨b144, 0, none⟩)), (11, .pointer (some ⟨b171, 0, none⟩))]) ⟨rfl, rfl, rfl, rfl, rfl, rfl, rfl, trivial⟩; clear hE180
      refine p_tn ?_
      refine c_seq ?_
      refine c_reg ?_
      refine q_step (v := .agg #[.int .i64 mp0, .slice b138 ((mp1).length) c139, .slice b140 ((mp2).length) c141]) hE183 (y_loadS Try.underlying32 rfl (by kernel_rfl) rfl (St.row (i := 3) hS181 rfl)) rfl rfl rfl ?_; intro a184 hE185; clear hE183
      refine q_step (v := .agg #[.int .i64 np0, .slice b165 ((np1).length) c166, .slice b167 ((np2).length) c168]) hE185 (y_loadS Try.underlying32 rfl (by kernel_rfl) rfl (St.row (i := 0) hS181 rfl)) rfl rfl rfl ?_; intro a186 hE187; clear hE185
      refine q_step (v := .int .i64 kq) hE187 (y_move rfl) rfl rfl rfl ?_; intro a188 hE189; clear hE187
      refine l_step hE189 rfl (l_call (f := 25) (argv := [.agg #[.int .i64 mp0, .slice b138 ((mp1).length) c139, .slice b140 ((mp2).length) c141], .agg #[.int .i64 np0, .slice b165 ((np1).length) c166, .slice b167 ((np2).length) c168], .int .i64 kq]) hE189 (fun _ => cf_BoundedBisimulation _ _) rfl rfl (c_BoundedBisimulation mp0 b138 ((mp1).length) c139 mp1 b140 ((mp2).length) c141 mp2 np0 b165 ((np1).length) c166 np1 b167 ((np2).length) c168 np2 kq w178 (St.rdO (i := 4) hS181 rfl) (St.rdO (i := 5) hS181 rfl) (St.rdO (i := 1) hS181 rfl) (St.rdO (i := 2) hS181 rfl)) ?_)
      rintro _ w191 ⟨b196, c197, rfl, ho198, he195⟩ a192 hE193; clear hE189
      have hf199 := BoundedBisimulation_len mp0 mp1 mp2 np0 np1 np2 kq
      have hS194 := St.own hS181 he195 ho198; clear hS181
      refine q_step (v := .tuple #[.slice b196 (((F_BoundedBisimulation mp0 mp1 mp2 np0 np1 np2 kq).1).length) c197, .int .i64 ((F_BoundedBisimulation mp0 mp1 mp2 np0 np1 np2 kq).2)]) hE193 (y_move rfl) rfl rfl rfl ?_; intro a200 hE201; clear hE193
      refine q_step (v := .slice b196 (((F_BoundedBisimulation mp0 mp1 mp2 np0 np1 np2 kq).1).length) c197) hE201 (y_extract rfl rfl) rfl rfl rfl ?_; intro a202 hE203; clear hE201
      refine q_step (v := .int .i64 ((F_BoundedBisimulation mp0 mp1 mp2 np0 np1 np2 kq).2)) hE203 (y_extract rfl rfl) rfl rfl rfl ?_; intro a204 hE205; clear hE203
      refine q_step (v := .slice b196 (((F_BoundedBisimulation mp0 mp1 mp2 np0 np1 np2 kq).1).length) c197) hE205 (y_assign rfl) rfl rfl rfl ?_; intro a206 hE207; clear hE205
      refine q_step (v := .int .i64 ((F_BoundedBisimulation mp0 mp1 mp2 np0 np1 np2 kq).2)) hE207 (y_assign rfl) rfl rfl rfl ?_; intro a208 hE209; clear hE207
      refine c_nil ?_
      have hE210 := hE209.sub (L' := [(2, .int .i64 kq), (3, .pointer (some ⟨b5, 0, none⟩)), (4, .pointer (some ⟨b11, 0, none⟩)), (8, .slice b116 (((F_s_BoundedBisimulation mp0 mp1 mp2 np0 np1 np2 kq).1).length) c117), (9, .int .i64 ((F_s_BoundedBisimulation mp0 mp1 mp2 np0 np1 np2 kq).2)), (10, .pointer (some ⟨b144, 0, none⟩)), (11, .pointer (some ⟨b171, 0, none⟩)), (12, .slice b196 (((F_BoundedBisimulation mp0 mp1 mp2 np0 np1 np2 kq).1).length) c197), (13, .int .i64 ((F_BoundedBisimulation mp0 mp1 mp2 np0 np1 np2 kq).2))]) ⟨rfl, rfl, rfl, rfl, rfl, rfl, rfl, rfl, rfl, trivial⟩; clear hE209
      refine p_tn ?_
      refine c_seq ?_
      refine c_cut (fun a' w' => E a' 124 [(2, .int .i64 kq), (3, .pointer (some ⟨b5, 0, none⟩)), (4, .pointer (some ⟨b11, 0, none⟩)), (8, .slice b116 (((F_s_BoundedBisimulation mp0 mp1 mp2 np0 np1 np2 kq).1).length) c117), (9, .int .i64 ((F_s_BoundedBisimulation mp0 mp1 mp2 np0 np1 np2 kq).2)), (10, .pointer (some ⟨b144, 0, none⟩)), (11, .pointer (some ⟨b171, 0, none⟩)), (12, .slice b196 (((F_BoundedBisimulation mp0 mp1 mp2 np0 np1 np2 kq).1).length) c197), (13, .int .i64 ((F_BoundedBisimulation mp0 mp1 mp2 np0 np1 np2 kq).2)), (57, .bool ((!(decide (((F_BoundedBisimulation mp0 mp1 mp2 np0 np1 np2 kq).1) = ((F_s_BoundedBisimulation mp0 mp1 mp2 np0 np1 np2 kq).1)))) || (!decide (((F_BoundedBisimulation mp0 mp1 mp2 np0 np1 np2 kq).2) = ((F_s_BoundedBisimulation mp0 mp1 mp2 np0 np1 np2 kq).2)))))] ∧ St w w' [.own 2 1 b196 (((F_BoundedBisimulation mp0 mp1 mp2 np0 np1 np2 kq).1).length) c197 ((F_BoundedBisimulation mp0 mp1 mp2 np0 np1 np2 kq).1), .own 2 1 b165 ((np1).length) c166 np1, .own 2 1 b167 ((np2).length) c168 np2, .blk b171 #[.int .i64 np0, .slice b165 ((np1).length) c166, .slice b167 ((np2).length) c168] 32, .own 2 1 b138 ((mp1).length) c139 mp1, .own 2 1 b140 ((mp2).length) c141 mp2, .blk b144 #[.int .i64 mp0, .slice b138 ((mp1).length) c139, .slice b140 ((mp2).length) c141] 32, .own 2 1 b116 (((F_s_BoundedBisimulation mp0 mp1 mp2 np0 np1 np2 kq).1).length) c117 ((F_s_BoundedBisimulation mp0 mp1 mp2 np0 np1 np2 kq).1), .own 2 1 b104 ((np1).length) c105 np1, .own 2 1 b106 ((np2).length) c107 np2, .own 2 1 b92 ((mp1).length) c93 mp1, .own 2 1 b94 ((mp2).length) c95 mp2, .rd 1 np1A np1.length np1C np1, .rd 1 np2A np2.length np2C np2, .blk b11 #[.int .i64 np0, .slice np1A np1.length np1C, .slice np2A np2.length np2C] 26, .rd 1 mp1A mp1.length mp1C mp1, .rd 1 mp2A mp2.length mp2C mp2, .blk b5 #[.int .i64 mp0, .slice mp1A mp1.length mp1C, .slice mp2A mp2.length mp2C] 26]) ?_ ?_
      ·
        refine c_reg ?_
        refine q_step (v := .slice b196 (((F_BoundedBisimulation mp0 mp1 mp2 np0 np1 np2 kq).1).length) c197) hE210 (y_move rfl) rfl rfl rfl ?_; intro a211 hE212; clear hE210
        refine q_step (v := .slice b116 (((F_s_BoundedBisimulation mp0 mp1 mp2 np0 np1 np2 kq).1).length) c117) hE212 (y_move rfl) rfl rfl rfl ?_; intro a213 hE214; clear hE212
        refine l_step hE214 rfl (l_call (f := 19) (argv := [.slice b196 (((F_BoundedBisimulation mp0 mp1 mp2 np0 np1 np2 kq).1).length) c197, .slice b116 (((F_s_BoundedBisimulation mp0 mp1 mp2 np0 np1 np2 kq).1).length) c117]) hE214 (fun _ => cf_l_eqInt64S _ _) rfl rfl (d_l_eqInt64S b196 (((F_BoundedBisimulation mp0 mp1 mp2 np0 np1 np2 kq).1).length) c197 ((F_BoundedBisimulation mp0 mp1 mp2 np0 np1 np2 kq).1) b116 (((F_s_BoundedBisimulation mp0 mp1 mp2 np0 np1 np2 kq).1).length) c117 ((F_s_BoundedBisimulation mp0 mp1 mp2 np0 np1 np2 kq).1) w191 (St.rdO (i := 0) hS194 rfl) (St.rdO (i := 7) hS194 rfl)) ?_)
        rintro _ w216 ⟨rfl, he220⟩ a217 hE218; clear hE214
        have hS219 := St.go hS194 he220; clear hS194
        refine q_step (v := .bool (!(decide (((F_BoundedBisimulation mp0 mp1 mp2 np0 np1 np2 kq).1) = ((F_s_BoundedBisimulation mp0 mp1 mp2 np0 np1 np2 kq).1))))) hE218 (y_not rfl) rfl rfl rfl ?_; intro a221 hE222; clear hE218
        refine q_step (v := .bool (!(decide (((F_BoundedBisimulation mp0 mp1 mp2 np0 np1 np2 kq).1) = ((F_s_BoundedBisimulation mp0 mp1 mp2 np0 np1 np2 kq).1))))) hE222 (y_move rfl) rfl rfl rfl ?_; intro a223 hE224; clear hE222
        rcases Bool.eq_false_or_eq_true (!(decide (((F_BoundedBisimulation mp0 mp1 mp2 np0 np1 np2 kq).1) = ((F_s_BoundedBisimulation mp0 mp1 mp2 np0 np1 np2 kq).1)))) with hb225 | hb225
        ·
          have hE226 := hE224; (try rw [hb225] at hE226); clear hE224
          have ht227 := bn_t hb225
          have hp228 := of_decide_eq_false ht227
          refine q_skip hE226 rfl rfl rfl ?_; intro a229 hE230; clear hE226
          refine q_skip hE230 rfl rfl rfl ?_; intro a231 hE232; clear hE230
          refine q_skip hE232 rfl rfl rfl ?_; intro a233 hE234; clear hE232
          refine q_step (v := .bool true) hE234 (y_pick (b := true) rfl rfl) rfl rfl rfl ?_; intro a235 hE236; clear hE234
          refine c_nil ?_
          have hE237 := hE236.sub (L' := [(2, .int .i64 kq), (3, .pointer (some ⟨b5, 0, none⟩)), (4, .pointer (some ⟨b11, 0, none⟩)), (8, .slice b116 (((F_s_BoundedBisimulation mp0 mp1 mp2 np0 np1 np2 kq).1).length) c117), (9, .int .i64 ((F_s_BoundedBisimulation mp0 mp1 mp2 np0 np1 np2 kq).2)), (10, .pointer (some ⟨b144, 0, none⟩)), (11, .pointer (some ⟨b171, 0, none⟩)), (12, .slice b196 (((F_BoundedBisimulation mp0 mp1 mp2 np0 np1 np2 kq).1).length) c197), (13, .int .i64 ((F_BoundedBisimulation mp0 mp1 mp2 np0 np1 np2 kq).2)), (57, .bool true)]) ⟨rfl, rfl, rfl, rfl, rfl, rfl, rfl, rfl, rfl, rfl, trivial⟩; clear hE236
          refine p_tn ?_
          have hE238 := hE237.sub (L' := [(2, .int .i64 kq), (3, .pointer (some ⟨b5, 0, none⟩)), (4, .pointer (some ⟨b11, 0, none⟩)), (8, .slice b116 (((F_s_BoundedBisimulation mp0 mp1 mp2 np0 np1 np2 kq).1).length) c117), (9, .int .i64 ((F_s_BoundedBisimulation mp0 mp1 mp2 np0 np1 np2 kq).2)), (10, .pointer (some ⟨b144, 0, none⟩)), (11, .pointer (some ⟨b171, 0, none⟩)), (12, .slice b196 (((F_BoundedBisimulation mp0 mp1 mp2 np0 np1 np2 kq).1).length) c197), (13, .int .i64 ((F_BoundedBisimulation mp0 mp1 mp2 np0 np1 np2 kq).2)), (57, .bool true)]) ⟨rfl, rfl, rfl, rfl, rfl, rfl, rfl, rfl, rfl, rfl, trivial⟩
          have hS239 := (St.pick (Γ' := [.own 2 1 b196 (((F_BoundedBisimulation mp0 mp1 mp2 np0 np1 np2 kq).1).length) c197 ((F_BoundedBisimulation mp0 mp1 mp2 np0 np1 np2 kq).1), .own 2 1 b165 ((np1).length) c166 np1, .own 2 1 b167 ((np2).length) c168 np2, .blk b171 #[.int .i64 np0, .slice b165 ((np1).length) c166, .slice b167 ((np2).length) c168] 32, .own 2 1 b138 ((mp1).length) c139 mp1, .own 2 1 b140 ((mp2).length) c141 mp2, .blk b144 #[.int .i64 mp0, .slice b138 ((mp1).length) c139, .slice b140 ((mp2).length) c141] 32, .own 2 1 b116 (((F_s_BoundedBisimulation mp0 mp1 mp2 np0 np1 np2 kq).1).length) c117 ((F_s_BoundedBisimulation mp0 mp1 mp2 np0 np1 np2 kq).1), .own 2 1 b104 ((np1).length) c105 np1, .own 2 1 b106 ((np2).length) c107 np2, .own 2 1 b92 ((mp1).length) c93 mp1, .own 2 1 b94 ((mp2).length) c95 mp2, .rd 1 np1A np1.length np1C np1, .rd 1 np2A np2.length np2C np2, .blk b11 #[.int .i64 np0, .slice np1A np1.length np1C, .slice np2A np2.length np2C] 26, .rd 1 mp1A mp1.length mp1C mp1, .rd 1 mp2A mp2.length mp2C mp2, .blk b5 #[.int .i64 mp0, .slice mp1A mp1.length mp1C, .slice mp2A mp2.length mp2C] 26]) hS219 [0, 2, 3, 1, 5, 6, 4, 7, 8, 9, 10, 11, 15, 14, 12, 17, 16, 13] (by decide) rfl)
          exact ⟨(by rw [hb225]; exact hE238), hS239⟩
        ·
          have hE240 := hE224; (try rw [hb225] at hE240); clear hE224
          have ht241 := bn_f hb225
          have hp242 := of_decide_eq_true ht241
          refine q_step (v := .int .i64 ((F_BoundedBisimulation mp0 mp1 mp2 np0 np1 np2 kq).2)) hE240 (y_move rfl) rfl rfl rfl ?_; intro a243 hE244; clear hE240
          refine q_step (v := .int .i64 ((F_s_BoundedBisimulation mp0 mp1 mp2 np0 np1 np2 kq).2)) hE244 (y_move rfl) rfl rfl rfl ?_; intro a245 hE246; clear hE244
          refine q_step (v := .bool (!decide (((F_BoundedBisimulation mp0 mp1 mp2 np0 np1 np2 kq).2) = ((F_s_BoundedBisimulation mp0 mp1 mp2 np0 np1 np2 kq).2)))) hE246 (y_neq rfl rfl) rfl rfl rfl ?_; intro a247 hE248; clear hE246
          refine q_step (v := .bool (!decide (((F_BoundedBisimulation mp0 mp1 mp2 np0 np1 np2 kq).2) = ((F_s_BoundedBisimulation mp0 mp1 mp2 np0 np1 np2 kq).2)))) hE248 (y_pick (b := false) rfl rfl) rfl rfl rfl ?_; intro a249 hE250; clear hE248
          refine c_nil ?_
          have hE251 := hE250.sub (L' := [(2, .int .i64 kq), (3, .pointer (some ⟨b5, 0, none⟩)), (4, .pointer (some ⟨b11, 0, none⟩)), (8, .slice b116 (((F_s_BoundedBisimulation mp0 mp1 mp2 np0 np1 np2 kq).1).length) c117), (9, .int .i64 ((F_s_BoundedBisimulation mp0 mp1 mp2 np0 np1 np2 kq).2)), (10, .pointer (some ⟨b144, 0, none⟩)), (11, .pointer (some ⟨b171, 0, none⟩)), (12, .slice b196 (((F_BoundedBisimulation mp0 mp1 mp2 np0 np1 np2 kq).1).length) c197), (13, .int .i64 ((F_BoundedBisimulation mp0 mp1 mp2 np0 np1 np2 kq).2)), (57, .bool (!decide (((F_BoundedBisimulation mp0 mp1 mp2 np0 np1 np2 kq).2) = ((F_s_BoundedBisimulation mp0 mp1 mp2 np0 np1 np2 kq).2))))]) ⟨rfl, rfl, rfl, rfl, rfl, rfl, rfl, rfl, rfl, rfl, trivial⟩; clear hE250
          refine p_tn ?_
          have hE252 := hE251.sub (L' := [(2, .int .i64 kq), (3, .pointer (some ⟨b5, 0, none⟩)), (4, .pointer (some ⟨b11, 0, none⟩)), (8, .slice b116 (((F_s_BoundedBisimulation mp0 mp1 mp2 np0 np1 np2 kq).1).length) c117), (9, .int .i64 ((F_s_BoundedBisimulation mp0 mp1 mp2 np0 np1 np2 kq).2)), (10, .pointer (some ⟨b144, 0, none⟩)), (11, .pointer (some ⟨b171, 0, none⟩)), (12, .slice b196 (((F_BoundedBisimulation mp0 mp1 mp2 np0 np1 np2 kq).1).length) c197), (13, .int .i64 ((F_BoundedBisimulation mp0 mp1 mp2 np0 np1 np2 kq).2)), (57, .bool (!decide (((F_BoundedBisimulation mp0 mp1 mp2 np0 np1 np2 kq).2) = ((F_s_BoundedBisimulation mp0 mp1 mp2 np0 np1 np2 kq).2))))]) ⟨rfl, rfl, rfl, rfl, rfl, rfl, rfl, rfl, rfl, rfl, trivial⟩
          have hS253 := (St.pick (Γ' := [.own 2 1 b196 (((F_BoundedBisimulation mp0 mp1 mp2 np0 np1 np2 kq).1).length) c197 ((F_BoundedBisimulation mp0 mp1 mp2 np0 np1 np2 kq).1), .own 2 1 b165 ((np1).length) c166 np1, .own 2 1 b167 ((np2).length) c168 np2, .blk b171 #[.int .i64 np0, .slice b165 ((np1).length) c166, .slice b167 ((np2).length) c168] 32, .own 2 1 b138 ((mp1).length) c139 mp1, .own 2 1 b140 ((mp2).length) c141 mp2, .blk b144 #[.int .i64 mp0, .slice b138 ((mp1).length) c139, .slice b140 ((mp2).length) c141] 32, .own 2 1 b116 (((F_s_BoundedBisimulation mp0 mp1 mp2 np0 np1 np2 kq).1).length) c117 ((F_s_BoundedBisimulation mp0 mp1 mp2 np0 np1 np2 kq).1), .own 2 1 b104 ((np1).length) c105 np1, .own 2 1 b106 ((np2).length) c107 np2, .own 2 1 b92 ((mp1).length) c93 mp1, .own 2 1 b94 ((mp2).length) c95 mp2, .rd 1 np1A np1.length np1C np1, .rd 1 np2A np2.length np2C np2, .blk b11 #[.int .i64 np0, .slice np1A np1.length np1C, .slice np2A np2.length np2C] 26, .rd 1 mp1A mp1.length mp1C mp1, .rd 1 mp2A mp2.length mp2C mp2, .blk b5 #[.int .i64 mp0, .slice mp1A mp1.length mp1C, .slice mp2A mp2.length mp2C] 26]) hS219 [0, 2, 3, 1, 5, 6, 4, 7, 8, 9, 10, 11, 15, 14, 12, 17, 16, 13] (by decide) rfl)
          exact ⟨(by rw [hb225]; exact hE252), hS253⟩
      ·
        rintro a254 w255 ⟨hE256, hS257⟩; clear hE210 hS194
        refine c_cond hE256 rfl (fun ht259 => ?_) (fun ht259 => ?_)
        ·
          have hE260 := hE256; rw [ht259] at hE260; clear hE256
          refine c_seq ?_
          refine c_reg ?_
          refine q_step (v := .bool false) hE260 (y_assign rfl) rfl rfl rfl ?_; intro a261 hE262; clear hE260
          refine c_nil ?_
          have hE263 := hE262.sub (L' := [(6, .bool false)]) ⟨rfl, trivial⟩; clear hE262
          refine p_tn ?_
          refine wp_ret ?_
          refine p_tr ?_
          have hF : F_l_FnExactBoundedBisimulation mp0 mp1 mp2 np0 np1 np2 kq = false := by unfold F_l_FnExactBoundedBisimulation; rw [ht259, ht68, ht41]; first | done | rfl
          refine c_ret1 hE263 rfl rfl ?_
          exact ⟨(by rw [hF]; first | done | (dsimp only; done) | rfl), hS257.ext⟩
        ·
          obtain ⟨ht264, ht265⟩ := bor_f ht259
          have ht266 := bn_f ht264
          have hp267 := of_decide_eq_true ht266
          have ht268 := bn_f ht265
          have hp269 := of_decide_eq_true ht268
          have hE270 := hE256; rw [ht259] at hE270; clear hE256
          refine wp_skip ?_
          refine p_tn ?_
          refine c_seq ?_
          refine c_seq ?_
          refine d_start (fun w w' => (fun w' => w'.heap[b144]? = some (.cells #[.int .i64 mp0, .slice b138 ((mp1).length) c139, .slice b140 ((mp2).length) c141] 32 (0, 0)) ∧ w'.heap[b5]? = some (.cells #[.int .i64 mp0, .slice mp1A mp1.length mp1C, .slice mp2A mp2.length mp2C] 26 (0, 0)) ∧ True) w → (fun w' => w'.heap[b144]? = some (.cells #[.int .i64 mp0, .slice b138 ((mp1).length) c139, .slice b140 ((mp2).length) c141] 32 (0, 0)) ∧ w'.heap[b5]? = some (.cells #[.int .i64 mp0, .slice mp1A mp1.length mp1C, .slice mp2A mp2.length mp2C] 26 (0, 0)) ∧ True) w') [0, 1] 5 (by kernel_rfl) rfl ?_
          intro w271 he272; have hS273 := St.go hS257 he272; clear hS257
          refine d_take (fun _ h => h) (fun _ _ h k => h k) (v := .agg #[.int .i64 mp0, .slice b138 ((mp1).length) c139, .slice b140 ((mp2).length) c141]) 0 rfl hE270 (S := fun w' => w'.heap[b144]? = some (.cells #[.int .i64 mp0, .slice b138 ((mp1).length) c139, .slice b140 ((mp2).length) c141] 32 (0, 0)) ∧ w'.heap[b5]? = some (.cells #[.int .i64 mp0, .slice mp1A mp1.length mp1C, .slice mp2A mp2.length mp2C] 26 (0, 0)) ∧ True) ⟨(St.row (i := 6) hS273 rfl _ (Ext.refl _)), (St.row (i := 17) hS273 rfl _ (Ext.refl _)), trivial⟩ (y_loadS Try.underlying32 rfl (by kernel_rfl) rfl (fun _ h => h.1)) rfl rfl (by kernel_rfl) (by kernel_rfl) (by kernel_rfl) (by kernel_rfl) rfl rfl (fun _ _ _ h => h) ?_; intro a274 hE275; clear hE270
          refine d_take (fun _ h => h) (fun _ _ h k => h k) (v := .agg #[.int .i64 mp0, .slice mp1A mp1.length mp1C, .slice mp2A mp2.length mp2C]) 1 rfl hE275 (S := fun w' => w'.heap[b144]? = some (.cells #[.int .i64 mp0, .slice b138 ((mp1).length) c139, .slice b140 ((mp2).length) c141] 32 (0, 0)) ∧ w'.heap[b5]? = some (.cells #[.int .i64 mp0, .slice mp1A mp1.length mp1C, .slice mp2A mp2.length mp2C] 26 (0, 0)) ∧ True) ⟨(St.row (i := 6) hS273 rfl _ (Ext.refl _)), (St.row (i := 17) hS273 rfl _ (Ext.refl _)), trivial⟩ (y_loadS Try.underlying26 rfl (by kernel_rfl) rfl (fun _ h => h.2.1)) rfl rfl (by kernel_rfl) (by kernel_rfl) (by kernel_rfl) (by kernel_rfl) rfl rfl (fun _ _ _ h => h) ?_; intro a276 hE277; clear hE275
          refine d_only 2 (by kernel_rfl) rfl hE277 rfl (l_call (f := 17) (argv := [.agg #[.int .i64 mp0, .slice mp1A mp1.length mp1C, .slice mp2A mp2.length mp2C]]) hE277 (fun _ => cf_l_toModel _ _) rfl rfl (d_l_toModel mp0 mp1A mp1.length mp1C mp1 mp2A mp2.length mp2C mp2 w271 (St.rdR (i := 15) hS273 rfl) (St.rdR (i := 16) hS273 rfl) (by first | omega | (simp only [marked_len]; omega) | (simp only [marked_len] at *; omega)) (by first | omega | (simp only [marked_len]; omega) | (simp only [marked_len] at *; omega))) ?_)
          rintro _ w279 ⟨b284, c285, b286, c287, rfl, ho288, he283⟩ a280 hE281; clear hE277
          have hS282 := St.push2 hS273 he283 ho288; clear hS273
          refine ⟨fun _ _ => ⟨(St.row (i := 8) hS282 rfl _ (Ext.refl _)), (St.row (i := 19) hS282 rfl _ (Ext.refl _)), trivial⟩, ?_⟩
          refine d_only 3 (by kernel_rfl) rfl hE281 rfl (l_call (f := 20) (argv := [.agg #[.int .i64 mp0, .slice b138 ((mp1).length) c139, .slice b140 ((mp2).length) c141], .agg #[.int .i64 mp0, .slice b284 ((mp1).length) c285, .slice b286 ((mp2).length) c287]]) hE281 (fun _ => cf_l_eqModel _ _) rfl rfl (d_l_eqModel mp0 b138 ((mp1).length) c139 mp1 b140 ((mp2).length) c141 mp2 mp0 b284 ((mp1).length) c285 mp1 b286 ((mp2).length) c287 mp2 w279 (St.rdO (i := 6) hS282 rfl) (St.rdO (i := 7) hS282 rfl) (St.rdO (i := 0) hS282 rfl) (St.rdO (i := 1) hS282 rfl)) ?_)
          rintro _ w291 ⟨rfl, he295⟩ a292 hE293; clear hE281
          have hS294 := St.go hS282 he295; clear hS282
          refine ⟨fun h => Bool.noConfusion (h.symm.trans (show exm _ _ _ = true by kernel_rfl)), ?_⟩
          refine d_pure (fun _ h => h) (v := .bool (!(decide ((mp0, mp1, mp2) = (mp0, mp1, mp2))))) 4 rfl hE293 (y_not rfl) rfl (by kernel_rfl) (by kernel_rfl) (by kernel_rfl) rfl rfl (fun _ _ _ h => h) ?_; intro a296 hE297; clear hE293
          refine d_done (by kernel_rfl) ?_
          have hE298 := hE297.sub (L' := [(2, .int .i64 kq), (3, .pointer (some ⟨b5, 0, none⟩)), (4, .pointer (some ⟨b11, 0, none⟩)), (8, .slice b116 (((F_s_BoundedBisimulation mp0 mp1 mp2 np0 np1 np2 kq).1).length) c117), (9, .int .i64 ((F_s_BoundedBisimulation mp0 mp1 mp2 np0 np1 np2 kq).2)), (10, .pointer (some ⟨b144, 0, none⟩)), (11, .pointer (some ⟨b171, 0, none⟩)), (12, .slice b196 (((F_BoundedBisimulation mp0 mp1 mp2 np0 np1 np2 kq).1).length) c197), (13, .int .i64 ((F_BoundedBisimulation mp0 mp1 mp2 np0 np1 np2 kq).2)), (62, .bool (!(decide ((mp0, mp1, mp2) = (mp0, mp1, mp2)))))]) ⟨rfl, rfl, rfl, rfl, rfl, rfl, rfl, rfl, rfl, rfl, trivial⟩; clear hE297
          refine p_tn ?_
          refine c_cond hE298 rfl (fun ht299 => ?_) (fun ht299 => ?_)
          ·
            have ht300 := bn_t ht299
            have hp301 := of_decide_eq_false ht300
            have hE302 := hE298; rw [ht299] at hE302; clear hE298
            refine c_seq ?_
            refine c_reg ?_
            refine q_step (v := .bool false) hE302 (y_assign rfl) rfl rfl rfl ?_; intro a303 hE304; clear hE302
            refine c_nil ?_
            have hE305 := hE304.sub (L' := [(6, .bool false)]) ⟨rfl, trivial⟩; clear hE304
            refine p_tn ?_
            refine wp_ret ?_
            refine p_tr ?_
            have hF : F_l_FnExactBoundedBisimulation mp0 mp1 mp2 np0 np1 np2 kq = false := by unfold F_l_FnExactBoundedBisimulation; rw [ht299, ht259, ht68, ht41]; first | done | rfl
            refine c_ret1 hE305 rfl rfl ?_
            exact ⟨(by rw [hF]; first | done | (dsimp only; done) | rfl), hS294.ext⟩
          ·
            have ht306 := bn_f ht299
            have hp307 := of_decide_eq_true ht306
            have hE308 := hE298; rw [ht299] at hE308; clear hE298
            refine wp_skip ?_
            refine p_tn ?_
            refine c_seq ?_
            refine c_seq ?_
            refine d_start (fun w w' => (fun w' => w'.heap[b171]? = some (.cells #[.int .i64 np0, .slice b165 ((np1).length) c166, .slice b167 ((np2).length) c168] 32 (0, 0)) ∧ w'.heap[b11]? = some (.cells #[.int .i64 np0, .slice np1A np1.length np1C, .slice np2A np2.length np2C] 26 (0, 0)) ∧ True) w → (fun w' => w'.heap[b171]? = some (.cells #[.int .i64 np0, .slice b165 ((np1).length) c166, .slice b167 ((np2).length) c168] 32 (0, 0)) ∧ w'.heap[b11]? = some (.cells #[.int .i64 np0, .slice np1A np1.length np1C, .slice np2A np2.length np2C] 26 (0, 0)) ∧ True) w') [0, 1] 5 (by kernel_rfl) rfl ?_
            intro w309 he310; have hS311 := St.go hS294 he310; clear hS294
            refine d_take (fun _ h => h) (fun _ _ h k => h k) (v := .agg #[.int .i64 np0, .slice b165 ((np1).length) c166, .slice b167 ((np2).length) c168]) 0 rfl hE308 (S := fun w' => w'.heap[b171]? = some (.cells #[.int .i64 np0, .slice b165 ((np1).length) c166, .slice b167 ((np2).length) c168] 32 (0, 0)) ∧ w'.heap[b11]? = some (.cells #[.int .i64 np0, .slice np1A np1.length np1C, .slice np2A np2.length np2C] 26 (0, 0)) ∧ True) ⟨(St.row (i := 5) hS311 rfl _ (Ext.refl _)), (St.row (i := 16) hS311 rfl _ (Ext.refl _)), trivial⟩ (y_loadS Try.underlying32 rfl (by kernel_rfl) rfl (fun _ h => h.1)) rfl rfl (by kernel_rfl) (by kernel_rfl) (by kernel_rfl) (by kernel_rfl) rfl rfl (fun _ _ _ h => h) ?_; intro a312 hE313; clear hE308
            refine d_take (fun _ h => h) (fun _ _ h k => h k) (v := .agg #[.int .i64 np0, .slice np1A np1.length np1C, .slice np2A np2.length np2C]) 1 rfl hE313 (S := fun w' => w'.heap[b171]? = some (.cells #[.int .i64 np0, .slice b165 ((np1).length) c166, .slice b167 ((np2).length) c168] 32 (0, 0)) ∧ w'.heap[b11]? = some (.cells #[.int .i64 np0, .slice np1A np1.length np1C, .slice np2A np2.length np2C] 26 (0, 0)) ∧ True) ⟨(St.row (i := 5) hS311 rfl _ (Ext.refl _)), (St.row (i := 16) hS311 rfl _ (Ext.refl _)), trivial⟩ (y_loadS Try.underlying26 rfl (by kernel_rfl) rfl (fun _ h => h.2.1)) rfl rfl (by kernel_rfl) (by kernel_rfl) (by kernel_rfl) (by kernel_rfl) rfl rfl (fun _ _ _ h => h) ?_; intro a314 hE315; clear hE313
            refine d_only 2 (by kernel_rfl) rfl hE315 rfl (l_call (f := 17) (argv := [.agg #[.int .i64 np0, .slice np1A np1.length np1C, .slice np2A np2.length np2C]]) hE315 (fun _ => cf_l_toModel _ _) rfl rfl (d_l_toModel np0 np1A np1.length np1C np1 np2A np2.length np2C np2 w309 (St.rdR (i := 14) hS311 rfl) (St.rdR (i := 15) hS311 rfl) (by first | omega | (simp only [marked_len]; omega) | (simp only [marked_len] at *; omega)) (by first | omega | (simp only [marked_len]; omega) | (simp only [marked_len] at *; omega))) ?_)
            rintro _ w317 ⟨b322, c323, b324, c325, rfl, ho326, he321⟩ a318 hE319; clear hE315
            have hS320 := St.push2 hS311 he321 ho326; clear hS311
            refine ⟨fun _ _ => ⟨(St.row (i := 7) hS320 rfl _ (Ext.refl _)), (St.row (i := 18) hS320 rfl _ (Ext.refl _)), trivial⟩, ?_⟩
            refine d_only 3 (by kernel_rfl) rfl hE319 rfl (l_call (f := 20) (argv := [.agg #[.int .i64 np0, .slice b165 ((np1).length) c166, .slice b167 ((np2).length) c168], .agg #[.int .i64 np0, .slice b322 ((np1).length) c323, .slice b324 ((np2).length) c325]]) hE319 (fun _ => cf_l_eqModel _ _) rfl rfl (d_l_eqModel np0 b165 ((np1).length) c166 np1 b167 ((np2).length) c168 np2 np0 b322 ((np1).length) c323 np1 b324 ((np2).length) c325 np2 w317 (St.rdO (i := 5) hS320 rfl) (St.rdO (i := 6) hS320 rfl) (St.rdO (i := 0) hS320 rfl) (St.rdO (i := 1) hS320 rfl)) ?_)
            rintro _ w329 ⟨rfl, he333⟩ a330 hE331; clear hE319
            have hS332 := St.go hS320 he333; clear hS320
            refine ⟨fun h => Bool.noConfusion (h.symm.trans (show exm _ _ _ = true by kernel_rfl)), ?_⟩
            refine d_pure (fun _ h => h) (v := .bool (!(decide ((np0, np1, np2) = (np0, np1, np2))))) 4 rfl hE331 (y_not rfl) rfl (by kernel_rfl) (by kernel_rfl) (by kernel_rfl) rfl rfl (fun _ _ _ h => h) ?_; intro a334 hE335; clear hE331
            refine d_done (by kernel_rfl) ?_
            have hE336 := hE335.sub (L' := [(2, .int .i64 kq), (3, .pointer (some ⟨b5, 0, none⟩)), (4, .pointer (some ⟨b11, 0, none⟩)), (8, .slice b116 (((F_s_BoundedBisimulation mp0 mp1 mp2 np0 np1 np2 kq).1).length) c117), (9, .int .i64 ((F_s_BoundedBisimulation mp0 mp1 mp2 np0 np1 np2 kq).2)), (10, .pointer (some ⟨b144, 0, none⟩)), (11, .pointer (some ⟨b171, 0, none⟩)), (12, .slice b196 (((F_BoundedBisimulation mp0 mp1 mp2 np0 np1 np2 kq).1).length) c197), (13, .int .i64 ((F_BoundedBisimulation mp0 mp1 mp2 np0 np1 np2 kq).2)), (67, .bool (!(decide ((np0, np1, np2) = (np0, np1, np2)))))]) ⟨rfl, rfl, rfl, rfl, rfl, rfl, rfl, rfl, rfl, rfl, trivial⟩; clear hE335
            refine p_tn ?_
            refine c_cond hE336 rfl (fun ht337 => ?_) (fun ht337 => ?_)
            ·
              have ht338 := bn_t ht337
              have hp339 := of_decide_eq_false ht338
              have hE340 := hE336; rw [ht337] at hE340; clear hE336
              refine c_seq ?_
              refine c_reg ?_
              refine q_step (v := .bool false) hE340 (y_assign rfl) rfl rfl rfl ?_; intro a341 hE342; clear hE340
              refine c_nil ?_
              have hE343 := hE342.sub (L' := [(6, .bool false)]) ⟨rfl, trivial⟩; clear hE342
              refine p_tn ?_
              refine wp_ret ?_
              refine p_tr ?_
              have hF : F_l_FnExactBoundedBisimulation mp0 mp1 mp2 np0 np1 np2 kq = false := by unfold F_l_FnExactBoundedBisimulation; rw [ht337, ht299, ht259, ht68, ht41]; first | done | rfl
              refine c_ret1 hE343 rfl rfl ?_
              exact ⟨(by rw [hF]; first | done | (dsimp only; done) | rfl), hS332.ext⟩
            ·
              have ht344 := bn_f ht337
              have hp345 := of_decide_eq_true ht344
              have hE346 := hE336; rw [ht337] at hE346; clear hE336
              refine wp_skip ?_
              refine p_tn ?_
              refine c_seq ?_
              refine c_reg ?_
              refine q_step (v := .int .i64 1) hE346 (y_assign rfl) rfl rfl rfl ?_; intro a347 hE348; clear hE346
              refine c_nil ?_
              have hE349 := hE348.sub (L' := [(2, .int .i64 kq), (3, .pointer (some ⟨b5, 0, none⟩)), (4, .pointer (some ⟨b11, 0, none⟩)), (8, .slice b116 (((F_s_BoundedBisimulation mp0 mp1 mp2 np0 np1 np2 kq).1).length) c117), (9, .int .i64 ((F_s_BoundedBisimulation mp0 mp1 mp2 np0 np1 np2 kq).2)), (10, .pointer (some ⟨b144, 0, none⟩)), (11, .pointer (some ⟨b171, 0, none⟩)), (12, .slice b196 (((F_BoundedBisimulation mp0 mp1 mp2 np0 np1 np2 kq).1).length) c197), (13, .int .i64 ((F_BoundedBisimulation mp0 mp1 mp2 np0 np1 np2 kq).2)), (14, .int .i64 1)]) ⟨rfl, rfl, rfl, rfl, rfl, rfl, rfl, rfl, rfl, rfl, trivial⟩; clear hE348
              refine p_tn ?_
              refine c_seq ?_
              refine c_reg ?_
              refine q_step (v := .agg #[.int .i64 mp0, .slice b138 ((mp1).length) c139, .slice b140 ((mp2).length) c141]) hE349 (y_loadS Try.underlying32 rfl (by kernel_rfl) rfl (St.row (i := 10) hS332 rfl)) rfl rfl rfl ?_; intro a350 hE351; clear hE349
              refine q_step (v := .int .i64 1) hE351 (y_move rfl) rfl rfl rfl ?_; intro a352 hE353; clear hE351
              have hS360 := (St.pick (Γ' := [.own 2 1 b140 ((mp2).length) c141 mp2, .own 2 1 b138 ((mp1).length) c139 mp1, .own 2 1 b322 ((np1).length) c323 np1, .own 2 1 b324 ((np2).length) c325 np2, .own 2 1 b284 ((mp1).length) c285 mp1, .own 2 1 b286 ((mp2).length) c287 mp2, .own 2 1 b196 (((F_BoundedBisimulation mp0 mp1 mp2 np0 np1 np2 kq).1).length) c197 ((F_BoundedBisimulation mp0 mp1 mp2 np0 np1 np2 kq).1), .own 2 1 b165 ((np1).length) c166 np1, .own 2 1 b167 ((np2).length) c168 np2, .blk b171 #[.int .i64 np0, .slice b165 ((np1).length) c166, .slice b167 ((np2).length) c168] 32, .blk b144 #[.int .i64 mp0, .slice b138 ((mp1).length) c139, .slice b140 ((mp2).length) c141] 32, .own 2 1 b116 (((F_s_BoundedBisimulation mp0 mp1 mp2 np0 np1 np2 kq).1).length) c117 ((F_s_BoundedBisimulation mp0 mp1 mp2 np0 np1 np2 kq).1), .own 2 1 b104 ((np1).length) c105 np1, .own 2 1 b106 ((np2).length) c107 np2, .own 2 1 b92 ((mp1).length) c93 mp1, .own 2 1 b94 ((mp2).length) c95 mp2, .rd 1 np1A np1.length np1C np1, .rd 1 np2A np2.length np2C np2, .blk b11 #[.int .i64 np0, .slice np1A np1.length np1C, .slice np2A np2.length np2C] 26, .rd 1 mp1A mp1.length mp1C mp1, .rd 1 mp2A mp2.length mp2C mp2, .blk b5 #[.int .i64 mp0, .slice mp1A mp1.length mp1C, .slice mp2A mp2.length mp2C] 26]) hS332 [9, 8, 0, 1, 2, 3, 4, 5, 6, 7, 10, 11, 12, 13, 14, 15, 16, 17, 18, 19, 20, 21] (by decide) rfl); clear hS332
              refine l_step hE353 rfl (l_call (f := 21) (argv := [.agg #[.int .i64 mp0, .slice b138 ((mp1).length) c139, .slice b140 ((mp2).length) c141], .int .i64 1]) hE353 (fun _ => cf_l_markModel _ _) rfl rfl (d_l_markModel mp0 b138 ((mp1).length) c139 mp1 b140 ((mp2).length) c141 mp2 1 w329 w [.own 2 1 b322 ((np1).length) c323 np1, .own 2 1 b324 ((np2).length) c325 np2, .own 2 1 b284 ((mp1).length) c285 mp1, .own 2 1 b286 ((mp2).length) c287 mp2, .own 2 1 b196 (((F_BoundedBisimulation mp0 mp1 mp2 np0 np1 np2 kq).1).length) c197 ((F_BoundedBisimulation mp0 mp1 mp2 np0 np1 np2 kq).1), .own 2 1 b165 ((np1).length) c166 np1, .own 2 1 b167 ((np2).length) c168 np2, .blk b171 #[.int .i64 np0, .slice b165 ((np1).length) c166, .slice b167 ((np2).length) c168] 32, .blk b144 #[.int .i64 mp0, .slice b138 ((mp1).length) c139, .slice b140 ((mp2).length) c141] 32, .own 2 1 b116 (((F_s_BoundedBisimulation mp0 mp1 mp2 np0 np1 np2 kq).1).length) c117 ((F_s_BoundedBisimulation mp0 mp1 mp2 np0 np1 np2 kq).1), .own 2 1 b104 ((np1).length) c105 np1, .own 2 1 b106 ((np2).length) c107 np2, .own 2 1 b92 ((mp1).length) c93 mp1, .own 2 1 b94 ((mp2).length) c95 mp2, .rd 1 np1A np1.length np1C np1, .rd 1 np2A np2.length np2C np2, .blk b11 #[.int .i64 np0, .slice np1A np1.length np1C, .slice np2A np2.length np2C] 26, .rd 1 mp1A mp1.length mp1C mp1, .rd 1 mp2A mp2.length mp2C mp2, .blk b5 #[.int .i64 mp0, .slice mp1A mp1.length mp1C, .slice mp2A mp2.length mp2C] 26] hS360 (by first | omega | (simp only [marked_len]; omega) | (simp only [marked_len] at *; omega)) (by first | omega | (simp only [marked_len]; omega) | (simp only [marked_len] at *; omega)) (by first | omega | (simp only [marked_len]; omega) | (simp only [marked_len] at *; omega)) (by first | omega | (simp only [marked_len]; omega) | (simp only [marked_len] at *; omega))) ?_)
              rintro _ w355 ⟨rfl, hS358⟩ a356 hE357; clear hE353 hS360
              refine q_step (v := .int .i64 (1 + (mp1.length : Int) + (mp2.length : Int))) hE357 (y_assign rfl) rfl rfl rfl ?_; intro a361 hE362; clear hE357
              refine c_nil ?_
              have hE363 := hE362.sub (L' := [(2, .int .i64 kq), (3, .pointer (some ⟨b5, 0, none⟩)), (4, .pointer (some ⟨b11, 0, none⟩)), (8, .slice b116 (((F_s_BoundedBisimulation mp0 mp1 mp2 np0 np1 np2 kq).1).length) c117), (9, .int .i64 ((F_s_BoundedBisimulation mp0 mp1 mp2 np0 np1 np2 kq).2)), (11, .pointer (some ⟨b171, 0, none⟩)), (12, .slice b196 (((F_BoundedBisimulation mp0 mp1 mp2 np0 np1 np2 kq).1).length) c197), (13, .int .i64 ((F_BoundedBisimulation mp0 mp1 mp2 np0 np1 np2 kq).2)), (14, .int .i64 (1 + (mp1.length : Int) + (mp2.length : Int)))]) ⟨rfl, rfl, rfl, rfl, rfl, rfl, rfl, rfl, rfl, trivial⟩; clear hE362
              refine p_tn ?_
              refine c_seq ?_
              refine c_reg ?_
              refine q_step (v := .agg #[.int .i64 np0, .slice b165 ((np1).length) c166, .slice b167 ((np2).length) c168]) hE363 (y_loadS Try.underlying32 rfl (by kernel_rfl) rfl (St.row (i := 9) hS358 rfl)) rfl rfl rfl ?_; intro a364 hE365; clear hE363
              refine q_step (v := .int .i64 (1 + (mp1.length : Int) + (mp2.length : Int))) hE365 (y_move rfl) rfl rfl rfl ?_; intro a366 hE367; clear hE365
              have hS374 := (St.pick (Γ' := [.own 2 1 b167 ((np2).length) c168 np2, .own 2 1 b165 ((np1).length) c166 np1, .own 2 1 b140 ((mp2).length) c141 (marked mp2.length (1 + (mp1.length : Int))), .own 2 1 b138 ((mp1).length) c139 (marked mp1.length 1), .own 2 1 b322 ((np1).length) c323 np1, .own 2 1 b324 ((np2).length) c325 np2, .own 2 1 b284 ((mp1).length) c285 mp1, .own 2 1 b286 ((mp2).length) c287 mp2, .own 2 1 b196 (((F_BoundedBisimulation mp0 mp1 mp2 np0 np1 np2 kq).1).length) c197 ((F_BoundedBisimulation mp0 mp1 mp2 np0 np1 np2 kq).1), .blk b171 #[.int .i64 np0, .slice b165 ((np1).length) c166, .slice b167 ((np2).length) c168] 32, .blk b144 #[.int .i64 mp0, .slice b138 ((mp1).length) c139, .slice b140 ((mp2).length) c141] 32, .own 2 1 b116 (((F_s_BoundedBisimulation mp0 mp1 mp2 np0 np1 np2 kq).1).length) c117 ((F_s_BoundedBisimulation mp0 mp1 mp2 np0 np1 np2 kq).1), .own 2 1 b104 ((np1).length) c105 np1, .own 2 1 b106 ((np2).length) c107 np2, .own 2 1 b92 ((mp1).length) c93 mp1, .own 2 1 b94 ((mp2).length) c95 mp2, .rd 1 np1A np1.length np1C np1, .rd 1 np2A np2.length np2C np2, .blk b11 #[.int .i64 np0, .slice np1A np1.length np1C, .slice np2A np2.length np2C] 26, .rd 1 mp1A mp1.length mp1C mp1, .rd 1 mp2A mp2.length mp2C mp2, .blk b5 #[.int .i64 mp0, .slice mp1A mp1.length mp1C, .slice mp2A mp2.length mp2C] 26]) hS358 [8, 7, 0, 1, 2, 3, 4, 5, 6, 9, 10, 11, 12, 13, 14, 15, 16, 17, 18, 19, 20, 21] (by decide) rfl); clear hS358
              refine l_step hE367 rfl (l_call (f := 21) (argv := [.agg #[.int .i64 np0, .slice b165 ((np1).length) c166, .slice b167 ((np2).length) c168], .int .i64 (1 + (mp1.length : Int) + (mp2.length : Int))]) hE367 (fun _ => cf_l_markModel _ _) rfl rfl (d_l_markModel np0 b165 ((np1).length) c166 np1 b167 ((np2).length) c168 np2 (1 + (mp1.length : Int) + (mp2.length : Int)) w355 w [.own 2 1 b140 ((mp2).length) c141 (marked mp2.length (1 + (mp1.length : Int))), .own 2 1 b138 ((mp1).length) c139 (marked mp1.length 1), .own 2 1 b322 ((np1).length) c323 np1, .own 2 1 b324 ((np2).length) c325 np2, .own 2 1 b284 ((mp1).length) c285 mp1, .own 2 1 b286 ((mp2).length) c287 mp2, .own 2 1 b196 (((F_BoundedBisimulation mp0 mp1 mp2 np0 np1 np2 kq).1).length) c197 ((F_BoundedBisimulation mp0 mp1 mp2 np0 np1 np2 kq).1), .blk b171 #[.int .i64 np0, .slice b165 ((np1).length) c166, .slice b167 ((np2).length) c168] 32, .blk b144 #[.int .i64 mp0, .slice b138 ((mp1).length) c139, .slice b140 ((mp2).length) c141] 32, .own 2 1 b116 (((F_s_BoundedBisimulation mp0 mp1 mp2 np0 np1 np2 kq).1).length) c117 ((F_s_BoundedBisimulation mp0 mp1 mp2 np0 np1 np2 kq).1), .own 2 1 b104 ((np1).length) c105 np1, .own 2 1 b106 ((np2).length) c107 np2, .own 2 1 b92 ((mp1).length) c93 mp1, .own 2 1 b94 ((mp2).length) c95 mp2, .rd 1 np1A np1.length np1C np1, .rd 1 np2A np2.length np2C np2, .blk b11 #[.int .i64 np0, .slice np1A np1.length np1C, .slice np2A np2.length np2C] 26, .rd 1 mp1A mp1.length mp1C mp1, .rd 1 mp2A mp2.length mp2C mp2, .blk b5 #[.int .i64 mp0, .slice mp1A mp1.length mp1C, .slice mp2A mp2.length mp2C] 26] hS374 (by first | omega | (simp only [marked_len]; omega) | (simp only [marked_len] at *; omega)) (by first | omega | (simp only [marked_len]; omega) | (simp only [marked_len] at *; omega)) (by first | omega | (simp only [marked_len]; omega) | (simp only [marked_len] at *; omega)) (by first | omega | (simp only [marked_len]; omega) | (simp only [marked_len] at *; omega))) ?_)
              rintro _ w369 ⟨rfl, hS372⟩ a370 hE371; clear hE367 hS374
              refine q_step (v := .int .i64 ((1 + (mp1.length : Int) + (mp2.length : Int)) + (np1.length : Int) + (np2.length : Int))) hE371 (y_assign rfl) rfl rfl rfl ?_; intro a375 hE376; clear hE371
              refine c_nil ?_
              have hE377 := hE376.sub (L' := [(2, .int .i64 kq), (3, .pointer (some ⟨b5, 0, none⟩)), (4, .pointer (some ⟨b11, 0, none⟩)), (8, .slice b116 (((F_s_BoundedBisimulation mp0 mp1 mp2 np0 np1 np2 kq).1).length) c117), (9, .int .i64 ((F_s_BoundedBisimulation mp0 mp1 mp2 np0 np1 np2 kq).2)), (12, .slice b196 (((F_BoundedBisimulation mp0 mp1 mp2 np0 np1 np2 kq).1).length) c197), (13, .int .i64 ((F_BoundedBisimulation mp0 mp1 mp2 np0 np1 np2 kq).2)), (14, .int .i64 ((1 + (mp1.length : Int) + (mp2.length : Int)) + (np1.length : Int) + (np2.length : Int)))]) ⟨rfl, rfl, rfl, rfl, rfl, rfl, rfl, rfl, trivial⟩; clear hE376
              refine p_tn ?_
              refine c_seq ?_
              refine c_cut (fun a' w' => E a' 124 [(2, .int .i64 kq), (3, .pointer (some ⟨b5, 0, none⟩)), (4, .pointer (some ⟨b11, 0, none⟩)), (8, .slice b116 (((F_s_BoundedBisimulation mp0 mp1 mp2 np0 np1 np2 kq).1).length) c117), (9, .int .i64 ((F_s_BoundedBisimulation mp0 mp1 mp2 np0 np1 np2 kq).2)), (12, .slice b196 (((F_BoundedBisimulation mp0 mp1 mp2 np0 np1 np2 kq).1).length) c197), (86, .bool ((decide (((1 + (mp1.length : Int) + (mp2.length : Int)) + (np1.length : Int) + (np2.length : Int)) < 0)) || ((!(decide (((F_BoundedBisimulation mp0 mp1 mp2 np0 np1 np2 kq).1) = ((F_s_BoundedBisimulation mp0 mp1 mp2 np0 np1 np2 kq).1)))) || (!decide (((F_BoundedBisimulation mp0 mp1 mp2 np0 np1 np2 kq).2) = ((F_s_BoundedBisimulation mp0 mp1 mp2 np0 np1 np2 kq).2))))))] ∧ St w w' [.own 2 1 b167 ((np2).length) c168 (marked np2.length ((1 + (mp1.length : Int) + (mp2.length : Int)) + (np1.length : Int))), .own 2 1 b165 ((np1).length) c166 (marked np1.length (1 + (mp1.length : Int) + (mp2.length : Int))), .own 2 1 b140 ((mp2).length) c141 (marked mp2.length (1 + (mp1.length : Int))), .own 2 1 b138 ((mp1).length) c139 (marked mp1.length 1), .own 2 1 b322 ((np1).length) c323 np1, .own 2 1 b324 ((np2).length) c325 np2, .own 2 1 b284 ((mp1).length) c285 mp1, .own 2 1 b286 ((mp2).length) c287 mp2, .own 2 1 b196 (((F_BoundedBisimulation mp0 mp1 mp2 np0 np1 np2 kq).1).length) c197 ((F_BoundedBisimulation mp0 mp1 mp2 np0 np1 np2 kq).1), .blk b171 #[.int .i64 np0, .slice b165 ((np1).length) c166, .slice b167 ((np2).length) c168] 32, .blk b144 #[.int .i64 mp0, .slice b138 ((mp1).length) c139, .slice b140 ((mp2).length) c141] 32, .own 2 1 b116 (((F_s_BoundedBisimulation mp0 mp1 mp2 np0 np1 np2 kq).1).length) c117 ((F_s_BoundedBisimulation mp0 mp1 mp2 np0 np1 np2 kq).1), .own 2 1 b104 ((np1).length) c105 np1, .own 2 1 b106 ((np2).length) c107 np2, .own 2 1 b92 ((mp1).length) c93 mp1, .own 2 1 b94 ((mp2).length) c95 mp2, .rd 1 np1A np1.length np1C np1, .rd 1 np2A np2.length np2C np2, .blk b11 #[.int .i64 np0, .slice np1A np1.length np1C, .slice np2A np2.length np2C] 26, .rd 1 mp1A mp1.length mp1C mp1, .rd 1 mp2A mp2.length mp2C mp2, .blk b5 #[.int .i64 mp0, .slice mp1A mp1.length mp1C, .slice mp2A mp2.length mp2C] 26]) ?_ ?_
              ·
                refine c_reg ?_
                refine q_step (v := .int .i64 ((1 + (mp1.length : Int) + (mp2.length : Int)) + (np1.length : Int) + (np2.length : Int))) hE377 (y_move rfl) rfl rfl rfl ?_; intro a378 hE379; clear hE377
                refine q_step (v := .bool (decide (((1 + (mp1.length : Int) + (mp2.length : Int)) + (np1.length : Int) + (np2.length : Int)) < 0))) hE379 (y_lss rfl rfl) rfl rfl rfl ?_; intro a380 hE381; clear hE379
                refine q_step (v := .bool (decide (((1 + (mp1.length : Int) + (mp2.length : Int)) + (np1.length : Int) + (np2.length : Int)) < 0))) hE381 (y_move rfl) rfl rfl rfl ?_; intro a382 hE383; clear hE381
                rcases Bool.eq_false_or_eq_true (decide (((1 + (mp1.length : Int) + (mp2.length : Int)) + (np1.length : Int) + (np2.length : Int)) < 0)) with hb384 | hb384
                ·
                  have hE385 := hE383; (try rw [hb384] at hE385); clear hE383
                  have hp386 := of_decide_eq_true hb384
                  refine q_skip hE385 rfl rfl rfl ?_; intro a387 hE388; clear hE385
                  refine q_skip hE388 rfl rfl rfl ?_; intro a389 hE390; clear hE388
                  refine q_skip hE390 rfl rfl rfl ?_; intro a391 hE392; clear hE390
                  refine q_skip hE392 rfl rfl rfl ?_; intro a393 hE394; clear hE392
                  refine q_step (v := .bool true) hE394 (y_pick (b := true) rfl rfl) rfl rfl rfl ?_; intro a395 hE396; clear hE394
                  refine q_step (v := .bool true) hE396 (y_move rfl) rfl rfl rfl ?_; intro a397 hE398; clear hE396
                  refine q_skip hE398 rfl rfl rfl ?_; intro a399 hE400; clear hE398
                  refine q_skip hE400 rfl rfl rfl ?_; intro a401 hE402; clear hE400
                  refine q_skip hE402 rfl rfl rfl ?_; intro a403 hE404; clear hE402
                  refine q_step (v := .bool true) hE404 (y_pick (b := true) rfl rfl) rfl rfl rfl ?_; intro a405 hE406; clear hE404
                  refine c_nil ?_
                  have hE407 := hE406.sub (L' := [(2, .int .i64 kq), (3, .pointer (some ⟨b5, 0, none⟩)), (4, .pointer (some ⟨b11, 0, none⟩)), (8, .slice b116 (((F_s_BoundedBisimulation mp0 mp1 mp2 np0 np1 np2 kq).1).length) c117), (9, .int .i64 ((F_s_BoundedBisimulation mp0 mp1 mp2 np0 np1 np2 kq).2)), (12, .slice b196 (((F_BoundedBisimulation mp0 mp1 mp2 np0 np1 np2 kq).1).length) c197), (86, .bool true)]) ⟨rfl, rfl, rfl, rfl, rfl, rfl, rfl, trivial⟩; clear hE406
                  refine p_tn ?_
                  have hE408 := hE407.sub (L' := [(2, .int .i64 kq), (3, .pointer (some ⟨b5, 0, none⟩)), (4, .pointer (some ⟨b11, 0, none⟩)), (8, .slice b116 (((F_s_BoundedBisimulation mp0 mp1 mp2 np0 np1 np2 kq).1).length) c117), (9, .int .i64 ((F_s_BoundedBisimulation mp0 mp1 mp2 np0 np1 np2 kq).2)), (12, .slice b196 (((F_BoundedBisimulation mp0 mp1 mp2 np0 np1 np2 kq).1).length) c197), (86, .bool true)]) ⟨rfl, rfl, rfl, rfl, rfl, rfl, rfl, trivial⟩
                  have hS409 := (St.pick (Γ' := [.own 2 1 b167 ((np2).length) c168 (marked np2.length ((1 + (mp1.length : Int) + (mp2.length : Int)) + (np1.length : Int))), .own 2 1 b165 ((np1).length) c166 (marked np1.length (1 + (mp1.length : Int) + (mp2.length : Int))), .own 2 1 b140 ((mp2).length) c141 (marked mp2.length (1 + (mp1.length : Int))), .own 2 1 b138 ((mp1).length) c139 (marked mp1.length 1), .own 2 1 b322 ((np1).length) c323 np1, .own 2 1 b324 ((np2).length) c325 np2, .own 2 1 b284 ((mp1).length) c285 mp1, .own 2 1 b286 ((mp2).length) c287 mp2, .own 2 1 b196 (((F_BoundedBisimulation mp0 mp1 mp2 np0 np1 np2 kq).1).length) c197 ((F_BoundedBisimulation mp0 mp1 mp2 np0 np1 np2 kq).1), .blk b171 #[.int .i64 np0, .slice b165 ((np1).length) c166, .slice b167 ((np2).length) c168] 32, .blk b144 #[.int .i64 mp0, .slice b138 ((mp1).length) c139, .slice b140 ((mp2).length) c141] 32, .own 2 1 b116 (((F_s_BoundedBisimulation mp0 mp1 mp2 np0 np1 np2 kq).1).length) c117 ((F_s_BoundedBisimulation mp0 mp1 mp2 np0 np1 np2 kq).1), .own 2 1 b104 ((np1).length) c105 np1, .own 2 1 b106 ((np2).length) c107 np2, .own 2 1 b92 ((mp1).length) c93 mp1, .own 2 1 b94 ((mp2).length) c95 mp2, .rd 1 np1A np1.length np1C np1, .rd 1 np2A np2.length np2C np2, .blk b11 #[.int .i64 np0, .slice np1A np1.length np1C, .slice np2A np2.length np2C] 26, .rd 1 mp1A mp1.length mp1C mp1, .rd 1 mp2A mp2.length mp2C mp2, .blk b5 #[.int .i64 mp0, .slice mp1A mp1.length mp1C, .slice mp2A mp2.length mp2C] 26]) hS372 [0, 1, 2, 3, 4, 5, 6, 7, 8, 9, 10, 11, 12, 13, 14, 15, 16, 17, 18, 19, 20, 21] (by decide) rfl)
                  exact ⟨(by rw [hb384]; exact hE408), hS409⟩
                ·
                  have hE410 := hE383; (try rw [hb384] at hE410); clear hE383
                  have hp411 := of_decide_eq_false hb384
                  refine q_step (v := .slice b196 (((F_BoundedBisimulation mp0 mp1 mp2 np0 np1 np2 kq).1).length) c197) hE410 (y_move rfl) rfl rfl rfl ?_; intro a412 hE413; clear hE410
                  refine q_step (v := .slice b116 (((F_s_BoundedBisimulation mp0 mp1 mp2 np0 np1 np2 kq).1).length) c117) hE413 (y_move rfl) rfl rfl rfl ?_; intro a414 hE415; clear hE413
                  refine l_step hE415 rfl (l_call (f := 19) (argv := [.slice b196 (((F_BoundedBisimulation mp0 mp1 mp2 np0 np1 np2 kq).1).length) c197, .slice b116 (((F_s_BoundedBisimulation mp0 mp1 mp2 np0 np1 np2 kq).1).length) c117]) hE415 (fun _ => cf_l_eqInt64S _ _) rfl rfl (d_l_eqInt64S b196 (((F_BoundedBisimulation mp0 mp1 mp2 np0 np1 np2 kq).1).length) c197 ((F_BoundedBisimulation mp0 mp1 mp2 np0 np1 np2 kq).1) b116 (((F_s_BoundedBisimulation mp0 mp1 mp2 np0 np1 np2 kq).1).length) c117 ((F_s_BoundedBisimulation mp0 mp1 mp2 np0 np1 np2 kq).1) w369 (St.rdO (i := 8) hS372 rfl) (St.rdO (i := 11) hS372 rfl)) ?_)
                  rintro _ w417 ⟨rfl, he421⟩ a418 hE419; clear hE415
                  have hS420 := St.go hS372 he421; clear hS372
                  refine q_step (v := .bool (!(decide (((F_BoundedBisimulation mp0 mp1 mp2 np0 np1 np2 kq).1) = ((F_s_BoundedBisimulation mp0 mp1 mp2 np0 np1 np2 kq).1))))) hE419 (y_not rfl) rfl rfl rfl ?_; intro a422 hE423; clear hE419
                  refine q_step (v := .bool (!(decide (((F_BoundedBisimulation mp0 mp1 mp2 np0 np1 np2 kq).1) = ((F_s_BoundedBisimulation mp0 mp1 mp2 np0 np1 np2 kq).1))))) hE423 (y_pick (b := false) rfl rfl) rfl rfl rfl ?_; intro a424 hE425; clear hE423
                  refine q_step (v := .bool (!(decide (((F_BoundedBisimulation mp0 mp1 mp2 np0 np1 np2 kq).1) = ((F_s_BoundedBisimulation mp0 mp1 mp2 np0 np1 np2 kq).1))))) hE425 (y_move rfl) rfl rfl rfl ?_; intro a426 hE427; clear hE425
                  rcases Bool.eq_false_or_eq_true (!(decide (((F_BoundedBisimulation mp0 mp1 mp2 np0 np1 np2 kq).1) = ((F_s_BoundedBisimulation mp0 mp1 mp2 np0 np1 np2 kq).1)))) with hb428 | hb428
                  ·
                    have hE429 := hE427; (try rw [hb428] at hE429); clear hE427
                    have ht430 := bn_t hb428
                    have hp431 := of_decide_eq_false ht430
                    refine q_skip hE429 rfl rfl rfl ?_; intro a432 hE433; clear hE429
                    refine q_skip hE433 rfl rfl rfl ?_; intro a434 hE435; clear hE433
                    refine q_skip hE435 rfl rfl rfl ?_; intro a436 hE437; clear hE435
                    refine q_step (v := .bool true) hE437 (y_pick (b := true) rfl rfl) rfl rfl rfl ?_; intro a438 hE439; clear hE437
                    refine c_nil ?_
                    have hE440 := hE439.sub (L' := [(2, .int .i64 kq), (3, .pointer (some ⟨b5, 0, none⟩)), (4, .pointer (some ⟨b11, 0, none⟩)), (8, .slice b116 (((F_s_BoundedBisimulation mp0 mp1 mp2 np0 np1 np2 kq).1).length) c117), (9, .int .i64 ((F_s_BoundedBisimulation mp0 mp1 mp2 np0 np1 np2 kq).2)), (12, .slice b196 (((F_BoundedBisimulation mp0 mp1 mp2 np0 np1 np2 kq).1).length) c197), (86, .bool true)]) ⟨rfl, rfl, rfl, rfl, rfl, rfl, rfl, trivial⟩; clear hE439
                    refine p_tn ?_
                    have hE441 := hE440.sub (L' := [(2, .int .i64 kq), (3, .pointer (some ⟨b5, 0, none⟩)), (4, .pointer (some ⟨b11, 0, none⟩)), (8, .slice b116 (((F_s_BoundedBisimulation mp0 mp1 mp2 np0 np1 np2 kq).1).length) c117), (9, .int .i64 ((F_s_BoundedBisimulation mp0 mp1 mp2 np0 np1 np2 kq).2)), (12, .slice b196 (((F_BoundedBisimulation mp0 mp1 mp2 np0 np1 np2 kq).1).length) c197), (86, .bool true)]) ⟨rfl, rfl, rfl, rfl, rfl, rfl, rfl, trivial⟩
                    have hS442 := (St.pick (Γ' := [.own 2 1 b167 ((np2).length) c168 (marked np2.length ((1 + (mp1.length : Int) + (mp2.length : Int)) + (np1.length : Int))), .own 2 1 b165 ((np1).length) c166 (marked np1.length (1 + (mp1.length : Int) + (mp2.length : Int))), .own 2 1 b140 ((mp2).length) c141 (marked mp2.length (1 + (mp1.length : Int))), .own 2 1 b138 ((mp1).length) c139 (marked mp1.length 1), .own 2 1 b322 ((np1).length) c323 np1, .own 2 1 b324 ((np2).length) c325 np2, .own 2 1 b284 ((mp1).length) c285 mp1, .own 2 1 b286 ((mp2).length) c287 mp2, .own 2 1 b196 (((F_BoundedBisimulation mp0 mp1 mp2 np0 np1 np2 kq).1).length) c197 ((F_BoundedBisimulation mp0 mp1 mp2 np0 np1 np2 kq).1), .blk b171 #[.int .i64 np0, .slice b165 ((np1).length) c166, .slice b167 ((np2).length) c168] 32, .blk b144 #[.int .i64 mp0, .slice b138 ((mp1).length) c139, .slice b140 ((mp2).length) c141] 32, .own 2 1 b116 (((F_s_BoundedBisimulation mp0 mp1 mp2 np0 np1 np2 kq).1).length) c117 ((F_s_BoundedBisimulation mp0 mp1 mp2 np0 np1 np2 kq).1), .own 2 1 b104 ((np1).length) c105 np1, .own 2 1 b106 ((np2).length) c107 np2, .own 2 1 b92 ((mp1).length) c93 mp1, .own 2 1 b94 ((mp2).length) c95 mp2, .rd 1 np1A np1.length np1C np1, .rd 1 np2A np2.length np2C np2, .blk b11 #[.int .i64 np0, .slice np1A np1.length np1C, .slice np2A np2.length np2C] 26, .rd 1 mp1A mp1.length mp1C mp1, .rd 1 mp2A mp2.length mp2C mp2, .blk b5 #[.int .i64 mp0, .slice mp1A mp1.length mp1C, .slice mp2A mp2.length mp2C] 26]) hS420 [0, 1, 2, 3, 4, 5, 6, 7, 8, 9, 10, 11, 12, 13, 14, 15, 16, 17, 18, 19, 20, 21] (by decide) rfl)
                    exact ⟨(by rw [hb428, hb384]; exact hE441), hS442⟩
                  ·
                    have hE443 := hE427; (try rw [hb428] at hE443); clear hE427
                    have ht444 := bn_f hb428
                    have hp445 := of_decide_eq_true ht444
                    refine q_step (v := .int .i64 ((F_BoundedBisimulation mp0 mp1 mp2 np0 np1 np2 kq).2)) hE443 (y_move rfl) rfl rfl rfl ?_; intro a446 hE447; clear hE443
                    refine q_step (v := .int .i64 ((F_s_BoundedBisimulation mp0 mp1 mp2 np0 np1 np2 kq).2)) hE447 (y_move rfl) rfl rfl rfl ?_; intro a448 hE449; clear hE447
                    refine q_step (v := .bool (!decide (((F_BoundedBisimulation mp0 mp1 mp2 np0 np1 np2 kq).2) = ((F_s_BoundedBisimulation mp0 mp1 mp2 np0 np1 np2 kq).2)))) hE449 (y_neq rfl rfl) rfl rfl rfl ?_; intro a450 hE451; clear hE449
                    refine q_step (v := .bool (!decide (((F_BoundedBisimulation mp0 mp1 mp2 np0 np1 np2 kq).2) = ((F_s_BoundedBisimulation mp0 mp1 mp2 np0 np1 np2 kq).2)))) hE451 (y_pick (b := false) rfl rfl) rfl rfl rfl ?_; intro a452 hE453; clear hE451
                    refine c_nil ?_
                    have hE454 := hE453.sub (L' := [(2, .int .i64 kq), (3, .pointer (some ⟨b5, 0, none⟩)), (4, .pointer (some ⟨b11, 0, none⟩)), (8, .slice b116 (((F_s_BoundedBisimulation mp0 mp1 mp2 np0 np1 np2 kq).1).length) c117), (9, .int .i64 ((F_s_BoundedBisimulation mp0 mp1 mp2 np0 np1 np2 kq).2)), (12, .slice b196 (((F_BoundedBisimulation mp0 mp1 mp2 np0 np1 np2 kq).1).length) c197), (86, .bool (!decide (((F_BoundedBisimulation mp0 mp1 mp2 np0 np1 np2 kq).2) = ((F_s_BoundedBisimulation mp0 mp1 mp2 np0 np1 np2 kq).2))))]) ⟨rfl, rfl, rfl, rfl, rfl, rfl, rfl, trivial⟩; clear hE453
                    refine p_tn ?_
                    have hE455 := hE454.sub (L' := [(2, .int .i64 kq), (3, .pointer (some ⟨b5, 0, none⟩)), (4, .pointer (some ⟨b11, 0, none⟩)), (8, .slice b116 (((F_s_BoundedBisimulation mp0 mp1 mp2 np0 np1 np2 kq).1).length) c117), (9, .int .i64 ((F_s_BoundedBisimulation mp0 mp1 mp2 np0 np1 np2 kq).2)), (12, .slice b196 (((F_BoundedBisimulation mp0 mp1 mp2 np0 np1 np2 kq).1).length) c197), (86, .bool (!decide (((F_BoundedBisimulation mp0 mp1 mp2 np0 np1 np2 kq).2) = ((F_s_BoundedBisimulation mp0 mp1 mp2 np0 np1 np2 kq).2))))]) ⟨rfl, rfl, rfl, rfl, rfl, rfl, rfl, trivial⟩
                    have hS456 := (St.pick (Γ' := [.own 2 1 b167 ((np2).length) c168 (marked np2.length ((1 + (mp1.length : Int) + (mp2.length : Int)) + (np1.length : Int))), .own 2 1 b165 ((np1).length) c166 (marked np1.length (1 + (mp1.length : Int) + (mp2.length : Int))), .own 2 1 b140 ((mp2).length) c141 (marked mp2.length (1 + (mp1.length : Int))), .own 2 1 b138 ((mp1).length) c139 (marked mp1.length 1), .own 2 1 b322 ((np1).length) c323 np1, .own 2 1 b324 ((np2).length) c325 np2, .own 2 1 b284 ((mp1).length) c285 mp1, .own 2 1 b286 ((mp2).length) c287 mp2, .own 2 1 b196 (((F_BoundedBisimulation mp0 mp1 mp2 np0 np1 np2 kq).1).length) c197 ((F_BoundedBisimulation mp0 mp1 mp2 np0 np1 np2 kq).1), .blk b171 #[.int .i64 np0, .slice b165 ((np1).length) c166, .slice b167 ((np2).length) c168] 32, .blk b144 #[.int .i64 mp0, .slice b138 ((mp1).length) c139, .slice b140 ((mp2).length) c141] 32, .own 2 1 b116 (((F_s_BoundedBisimulation mp0 mp1 mp2 np0 np1 np2 kq).1).length) c117 ((F_s_BoundedBisimulation mp0 mp1 mp2 np0 np1 np2 kq).1), .own 2 1 b104 ((np1).length) c105 np1, .own 2 1 b106 ((np2).length) c107 np2, .own 2 1 b92 ((mp1).length) c93 mp1, .own 2 1 b94 ((mp2).length) c95 mp2, .rd 1 np1A np1.length np1C np1, .rd 1 np2A np2.length np2C np2, .blk b11 #[.int .i64 np0, .slice np1A np1.length np1C, .slice np2A np2.length np2C] 26, .rd 1 mp1A mp1.length mp1C mp1, .rd 1 mp2A mp2.length mp2C mp2, .blk b5 #[.int .i64 mp0, .slice mp1A mp1.length mp1C, .slice mp2A mp2.length mp2C] 26]) hS420 [0, 1, 2, 3, 4, 5, 6, 7, 8, 9, 10, 11, 12, 13, 14, 15, 16, 17, 18, 19, 20, 21] (by decide) rfl)
                    exact ⟨(by rw [hb428, hb384]; exact hE455), hS456⟩
              ·
                rintro a457 w458 ⟨hE459, hS460⟩; clear hE377 hS372
                refine c_cond hE459 rfl (fun ht462 => ?_) (fun ht462 => ?_)
                ·
                  have hE463 := hE459; rw [ht462] at hE463; clear hE459
                  refine c_seq ?_
                  refine c_reg ?_
                  refine q_step (v := .bool false) hE463 (y_assign rfl) rfl rfl rfl ?_; intro a464 hE465; clear hE463
                  refine c_nil ?_
                  have hE466 := hE465.sub (L' := [(6, .bool false)]) ⟨rfl, trivial⟩; clear hE465
                  refine p_tn ?_
                  refine wp_ret ?_
                  refine p_tr ?_
                  have hF : F_l_FnExactBoundedBisimulation mp0 mp1 mp2 np0 np1 np2 kq = false := by unfold F_l_FnExactBoundedBisimulation; rw [ht462, ht337, ht299, ht259, ht68, ht41]; first | done | rfl
                  refine c_ret1 hE466 rfl rfl ?_
                  exact ⟨(by rw [hF]; first | done | (dsimp only; done) | rfl), hS460.ext⟩
                ·
                  obtain ⟨ht467, ht468⟩ := bor_f ht462
                  have hp469 := of_decide_eq_false ht467
                  obtain ⟨ht470, ht471⟩ := bor_f ht468
                  have ht472 := bn_f ht470
                  have hp473 := of_decide_eq_true ht472
                  have ht474 := bn_f ht471
                  have hp475 := of_decide_eq_true ht474
                  have hE476 := hE459; rw [ht462] at hE476; clear hE459
                  refine wp_skip ?_
                  refine p_tn ?_
                  refine c_seq ?_
                  refine c_reg ?_
                  refine q_step (v := .int .i64 1) hE476 (y_assign rfl) rfl rfl rfl ?_; intro a477 hE478; clear hE476
                  refine c_nil ?_
                  have hE479 := hE478.sub (L' := [(2, .int .i64 kq), (3, .pointer (some ⟨b5, 0, none⟩)), (4, .pointer (some ⟨b11, 0, none⟩)), (8, .slice b116 (((F_s_BoundedBisimulation mp0 mp1 mp2 np0 np1 np2 kq).1).length) c117), (9, .int .i64 ((F_s_BoundedBisimulation mp0 mp1 mp2 np0 np1 np2 kq).2)), (12, .slice b196 (((F_BoundedBisimulation mp0 mp1 mp2 np0 np1 np2 kq).1).length) c197), (15, .int .i64 1)]) ⟨rfl, rfl, rfl, rfl, rfl, rfl, rfl, trivial⟩; clear hE478
                  refine p_tn ?_
                  refine c_seq ?_
                  refine c_reg ?_
                  refine q_step (v := .slice b196 (((F_BoundedBisimulation mp0 mp1 mp2 np0 np1 np2 kq).1).length) c197) hE479 (y_move rfl) rfl rfl rfl ?_; intro a480 hE481; clear hE479
                  refine q_step (v := .int .i64 1) hE481 (y_move rfl) rfl rfl rfl ?_; intro a482 hE483; clear hE481
                  have hS490 := (St.pick (Γ' := [.own 2 1 b196 (((F_BoundedBisimulation mp0 mp1 mp2 np0 np1 np2 kq).1).length) c197 ((F_BoundedBisimulation mp0 mp1 mp2 np0 np1 np2 kq).1), .own 2 1 b167 ((np2).length) c168 (marked np2.length ((1 + (mp1.length : Int) + (mp2.length : Int)) + (np1.length : Int))), .own 2 1 b165 ((np1).length) c166 (marked np1.length (1 + (mp1.length : Int) + (mp2.length : Int))), .own 2 1 b140 ((mp2).length) c141 (marked mp2.length (1 + (mp1.length : Int))), .own 2 1 b138 ((mp1).length) c139 (marked mp1.length 1), .own 2 1 b322 ((np1).length) c323 np1, .own 2 1 b324 ((np2).length) c325 np2, .own 2 1 b284 ((mp1).length) c285 mp1, .own 2 1 b286 ((mp2).length) c287 mp2, .blk b171 #[.int .i64 np0, .slice b165 ((np1).length) c166, .slice b167 ((np2).length) c168] 32, .blk b144 #[.int .i64 mp0, .slice b138 ((mp1).length) c139, .slice b140 ((mp2).length) c141] 32, .own 2 1 b116 (((F_s_BoundedBisimulation mp0 mp1 mp2 np0 np1 np2 kq).1).length) c117 ((F_s_BoundedBisimulation mp0 mp1 mp2 np0 np1 np2 kq).1), .own 2 1 b104 ((np1).length) c105 np1, .own 2 1 b106 ((np2).length) c107 np2, .own 2 1 b92 ((mp1).length) c93 mp1, .own 2 1 b94 ((mp2).length) c95 mp2, .rd 1 np1A np1.length np1C np1, .rd 1 np2A np2.length np2C np2, .blk b11 #[.int .i64 np0, .slice np1A np1.length np1C, .slice np2A np2.length np2C] 26, .rd 1 mp1A mp1.length mp1C mp1, .rd 1 mp2A mp2.length mp2C mp2, .blk b5 #[.int .i64 mp0, .slice mp1A mp1.length mp1C, .slice mp2A mp2.length mp2C] 26]) hS460 [8, 0, 1, 2, 3, 4, 5, 6, 7, 9, 10, 11, 12, 13, 14, 15, 16, 17, 18, 19, 20, 21] (by decide) rfl); clear hS460
                  refine l_step hE483 rfl (l_call (f := 22) (argv := [.slice b196 (((F_BoundedBisimulation mp0 mp1 mp2 np0 np1 np2 kq).1).length) c197, .int .i64 1]) hE483 (fun _ => cf_l_markInt64S _ _) rfl rfl (d_l_markInt64S b196 (((F_BoundedBisimulation mp0 mp1 mp2 np0 np1 np2 kq).1).length) c197 ((F_BoundedBisimulation mp0 mp1 mp2 np0 np1 np2 kq).1) 1 w458 w [.own 2 1 b167 ((np2).length) c168 (marked np2.length ((1 + (mp1.length : Int) + (mp2.length : Int)) + (np1.length : Int))), .own 2 1 b165 ((np1).length) c166 (marked np1.length (1 + (mp1.length : Int) + (mp2.length : Int))), .own 2 1 b140 ((mp2).length) c141 (marked mp2.length (1 + (mp1.length : Int))), .own 2 1 b138 ((mp1).length) c139 (marked mp1.length 1), .own 2 1 b322 ((np1).length) c323 np1, .own 2 1 b324 ((np2).length) c325 np2, .own 2 1 b284 ((mp1).length) c285 mp1, .own 2 1 b286 ((mp2).length) c287 mp2, .blk b171 #[.int .i64 np0, .slice b165 ((np1).length) c166, .slice b167 ((np2).length) c168] 32, .blk b144 #[.int .i64 mp0, .slice b138 ((mp1).length) c139, .slice b140 ((mp2).length) c141] 32, .own 2 1 b116 (((F_s_BoundedBisimulation mp0 mp1 mp2 np0 np1 np2 kq).1).length) c117 ((F_s_BoundedBisimulation mp0 mp1 mp2 np0 np1 np2 kq).1), .own 2 1 b104 ((np1).length) c105 np1, .own 2 1 b106 ((np2).length) c107 np2, .own 2 1 b92 ((mp1).length) c93 mp1, .own 2 1 b94 ((mp2).length) c95 mp2, .rd 1 np1A np1.length np1C np1, .rd 1 np2A np2.length np2C np2, .blk b11 #[.int .i64 np0, .slice np1A np1.length np1C, .slice np2A np2.length np2C] 26, .rd 1 mp1A mp1.length mp1C mp1, .rd 1 mp2A mp2.length mp2C mp2, .blk b5 #[.int .i64 mp0, .slice mp1A mp1.length mp1C, .slice mp2A mp2.length mp2C] 26] hS490 (by first | omega | (simp only [marked_len]; omega) | (simp only [marked_len] at *; omega)) (by first | omega | (simp only [marked_len]; omega) | (simp only [marked_len] at *; omega)) (by first | omega | (simp only [marked_len]; omega) | (simp only [marked_len] at *; omega))) ?_)
                  rintro _ w485 ⟨rfl, hS488⟩ a486 hE487; clear hE483 hS490
                  refine q_step (v := .int .i64 (1 + (((F_BoundedBisimulation mp0 mp1 mp2 np0 np1 np2 kq).1).length : Int))) hE487 (y_assign rfl) rfl rfl rfl ?_; intro a491 hE492; clear hE487
                  refine c_nil ?_
                  have hE493 := hE492.sub (L' := [(2, .int .i64 kq), (3, .pointer (some ⟨b5, 0, none⟩)), (4, .pointer (some ⟨b11, 0, none⟩)), (8, .slice b116 (((F_s_BoundedBisimulation mp0 mp1 mp2 np0 np1 np2 kq).1).length) c117), (9, .int .i64 ((F_s_BoundedBisimulation mp0 mp1 mp2 np0 np1 np2 kq).2)), (12, .slice b196 (((F_BoundedBisimulation mp0 mp1 mp2 np0 np1 np2 kq).1).length) c197), (15, .int .i64 (1 + (((F_BoundedBisimulation mp0 mp1 mp2 np0 np1 np2 kq).1).length : Int)))]) ⟨rfl, rfl, rfl, rfl, rfl, rfl, rfl, trivial⟩; clear hE492
                  refine p_tn ?_
                  refine c_seq ?_
                  refine c_reg ?_
                  refine q_step (v := .int .i64 1) hE493 (y_assign rfl) rfl rfl rfl ?_; intro a494 hE495; clear hE493
                  refine c_nil ?_
                  have hE496 := hE495.sub (L' := [(2, .int .i64 kq), (3, .pointer (some ⟨b5, 0, none⟩)), (4, .pointer (some ⟨b11, 0, none⟩)), (8, .slice b116 (((F_s_BoundedBisimulation mp0 mp1 mp2 np0 np1 np2 kq).1).length) c117), (9, .int .i64 ((F_s_BoundedBisimulation mp0 mp1 mp2 np0 np1 np2 kq).2)), (12, .slice b196 (((F_BoundedBisimulation mp0 mp1 mp2 np0 np1 np2 kq).1).length) c197), (15, .int .i64 (1 + (((F_BoundedBisimulation mp0 mp1 mp2 np0 np1 np2 kq).1).length : Int))), (16, .int .i64 1)]) ⟨rfl, rfl, rfl, rfl, rfl, rfl, rfl, rfl, trivial⟩; clear hE495
                  refine p_tn ?_
                  refine c_seq ?_
                  refine c_reg ?_
                  refine q_step (v := .slice b196 (((F_BoundedBisimulation mp0 mp1 mp2 np0 np1 np2 kq).1).length) c197) hE496 (y_move rfl) rfl rfl rfl ?_; intro a497 hE498; clear hE496
                  refine q_step (v := .int .i64 1) hE498 (y_move rfl) rfl rfl rfl ?_; intro a499 hE500; clear hE498
                  refine l_step hE500 rfl (l_call (f := 23) (argv := [.slice b196 (((F_BoundedBisimulation mp0 mp1 mp2 np0 np1 np2 kq).1).length) c197, .int .i64 1]) hE500 (fun _ => cf_l_heldInt64S _ _) rfl rfl (c_l_heldInt64S b196 (((F_BoundedBisimulation mp0 mp1 mp2 np0 np1 np2 kq).1).length) c197 (marked ((F_BoundedBisimulation mp0 mp1 mp2 np0 np1 np2 kq).1).length 1) 1 w485 (St.rdO (i := 0) hS488 rfl) (by first | omega | (simp only [marked_len]; omega) | (simp only [marked_len] at *; omega)) (by first | omega | (simp only [marked_len]; omega) | (simp only [marked_len] at *; omega)) (by first | omega | (simp only [marked_len]; omega) | (simp only [marked_len] at *; omega))) ?_)
                  rintro _ w502 ⟨rfl, he506⟩ a503 hE504; clear hE500
                  have hS505 := St.go hS488 he506; clear hS488
                  refine q_step (v := .int .i64 (F_l_heldInt64S (marked ((F_BoundedBisimulation mp0 mp1 mp2 np0 np1 np2 kq).1).length 1) 1)) hE504 (y_assign rfl) rfl rfl rfl ?_; intro a507 hE508; clear hE504
                  refine c_nil ?_
                  have hE509 := hE508.sub (L' := [(2, .int .i64 kq), (3, .pointer (some ⟨b5, 0, none⟩)), (4, .pointer (some ⟨b11, 0, none⟩)), (8, .slice b116 (((F_s_BoundedBisimulation mp0 mp1 mp2 np0 np1 np2 kq).1).length) c117), (9, .int .i64 ((F_s_BoundedBisimulation mp0 mp1 mp2 np0 np1 np2 kq).2)), (12, .slice b196 (((F_BoundedBisimulation mp0 mp1 mp2 np0 np1 np2 kq).1).length) c197), (15, .int .i64 (1 + (((F_BoundedBisimulation mp0 mp1 mp2 np0 np1 np2 kq).1).length : Int))), (16, .int .i64 (F_l_heldInt64S (marked ((F_BoundedBisimulation mp0 mp1 mp2 np0 np1 np2 kq).1).length 1) 1))]) ⟨rfl, rfl, rfl, rfl, rfl, rfl, rfl, rfl, trivial⟩; clear hE508
                  refine p_tn ?_
                  refine c_seq ?_
                  refine c_seq ?_
                  refine c_reg ?_
                  refine q_step (v := .int .i64 (F_l_heldInt64S (marked ((F_BoundedBisimulation mp0 mp1 mp2 np0 np1 np2 kq).1).length 1) 1)) hE509 (y_move rfl) rfl rfl rfl ?_; intro a510 hE511; clear hE509
                  refine q_step (v := .bool (decide ((F_l_heldInt64S (marked ((F_BoundedBisimulation mp0 mp1 mp2 np0 np1 np2 kq).1).length 1) 1) < 0))) hE511 (y_lss rfl rfl) rfl rfl rfl ?_; intro a512 hE513; clear hE511
                  refine c_nil ?_
                  have hE514 := hE513.sub (L' := [(2, .int .i64 kq), (3, .pointer (some ⟨b5, 0, none⟩)), (4, .pointer (some ⟨b11, 0, none⟩)), (8, .slice b116 (((F_s_BoundedBisimulation mp0 mp1 mp2 np0 np1 np2 kq).1).length) c117), (9, .int .i64 ((F_s_BoundedBisimulation mp0 mp1 mp2 np0 np1 np2 kq).2)), (12, .slice b196 (((F_BoundedBisimulation mp0 mp1 mp2 np0 np1 np2 kq).1).length) c197), (15, .int .i64 (1 + (((F_BoundedBisimulation mp0 mp1 mp2 np0 np1 np2 kq).1).length : Int))), (16, .int .i64 (F_l_heldInt64S (marked ((F_BoundedBisimulation mp0 mp1 mp2 np0 np1 np2 kq).1).length 1) 1)), (94, .bool (decide ((F_l_heldInt64S (marked ((F_BoundedBisimulation mp0 mp1 mp2 np0 np1 np2 kq).1).length 1) 1) < 0)))]) ⟨rfl, rfl, rfl, rfl, rfl, rfl, rfl, rfl, rfl, trivial⟩; clear hE513
                  refine p_tn ?_
                  refine c_cond hE514 rfl (fun ht515 => ?_) (fun ht515 => ?_)
                  ·
                    have hp516 := of_decide_eq_true ht515
                    have hE517 := hE514; rw [ht515] at hE517; clear hE514
                    refine c_seq ?_
                    refine c_reg ?_
                    refine q_step (v := .bool false) hE517 (y_assign rfl) rfl rfl rfl ?_; intro a518 hE519; clear hE517
                    refine c_nil ?_
                    have hE520 := hE519.sub (L' := [(6, .bool false)]) ⟨rfl, trivial⟩; clear hE519
                    refine p_tn ?_
                    refine wp_ret ?_
                    refine p_tr ?_
                    have hF : F_l_FnExactBoundedBisimulation mp0 mp1 mp2 np0 np1 np2 kq = false := by unfold F_l_FnExactBoundedBisimulation; rw [ht515, ht462, ht337, ht299, ht259, ht68, ht41]; first | done | rfl
                    refine c_ret1 hE520 rfl rfl ?_
                    exact ⟨(by rw [hF]; first | done | (dsimp only; done) | rfl), hS505.ext⟩
                  ·
                    have hp521 := of_decide_eq_false ht515
                    have hE522 := hE514; rw [ht515] at hE522; clear hE514
                    refine wp_skip ?_
                    refine p_tn ?_
                    refine c_seq ?_
                    refine c_seq ?_
                    refine c_reg ?_
                    refine q_step (v := .int .i64 (F_l_heldInt64S (marked ((F_BoundedBisimulation mp0 mp1 mp2 np0 np1 np2 kq).1).length 1) 1)) hE522 (y_move rfl) rfl rfl rfl ?_; intro a523 hE524; clear hE522
                    refine q_step (v := .int .i64 (1 + (((F_BoundedBisimulation mp0 mp1 mp2 np0 np1 np2 kq).1).length : Int))) hE524 (y_move rfl) rfl rfl rfl ?_; intro a525 hE526; clear hE524
                    refine q_step (v := .bool (!decide ((F_l_heldInt64S (marked ((F_BoundedBisimulation mp0 mp1 mp2 np0 np1 np2 kq).1).length 1) 1) = (1 + (((F_BoundedBisimulation mp0 mp1 mp2 np0 np1 np2 kq).1).length : Int))))) hE526 (y_neq rfl rfl) rfl rfl rfl ?_; intro a527 hE528; clear hE526
                    refine c_nil ?_
                    have hE529 := hE528.sub (L' := [(2, .int .i64 kq), (3, .pointer (some ⟨b5, 0, none⟩)), (4, .pointer (some ⟨b11, 0, none⟩)), (8, .slice b116 (((F_s_BoundedBisimulation mp0 mp1 mp2 np0 np1 np2 kq).1).length) c117), (9, .int .i64 ((F_s_BoundedBisimulation mp0 mp1 mp2 np0 np1 np2 kq).2)), (12, .slice b196 (((F_BoundedBisimulation mp0 mp1 mp2 np0 np1 np2 kq).1).length) c197), (15, .int .i64 (1 + (((F_BoundedBisimulation mp0 mp1 mp2 np0 np1 np2 kq).1).length : Int))), (97, .bool (!decide ((F_l_heldInt64S (marked ((F_BoundedBisimulation mp0 mp1 mp2 np0 np1 np2 kq).1).length 1) 1) = (1 + (((F_BoundedBisimulation mp0 mp1 mp2 np0 np1 np2 kq).1).length : Int)))))]) ⟨rfl, rfl, rfl, rfl, rfl, rfl, rfl, rfl, trivial⟩; clear hE528
                    refine p_tn ?_
                    refine c_cond hE529 rfl (fun ht530 => ?_) (fun ht530 => ?_)
                    ·
                      have ht531 := bn_t ht530
                      have hp532 := of_decide_eq_false ht531
                      have hE533 := hE529; rw [ht530] at hE533; clear hE529
                      refine c_seq ?_
                      refine c_reg ?_
                      refine q_step (v := .bool false) hE533 (y_assign rfl) rfl rfl rfl ?_; intro a534 hE535; clear hE533
                      refine c_nil ?_
                      have hE536 := hE535.sub (L' := [(6, .bool false)]) ⟨rfl, trivial⟩; clear hE535
                      refine p_tn ?_
                      refine wp_ret ?_
                      refine p_tr ?_
                      have hF : F_l_FnExactBoundedBisimulation mp0 mp1 mp2 np0 np1 np2 kq = false := by unfold F_l_FnExactBoundedBisimulation; rw [ht530, ht515, ht462, ht337, ht299, ht259, ht68, ht41]; first | done | rfl
                      refine c_ret1 hE536 rfl rfl ?_
                      exact ⟨(by rw [hF]; first | done | (dsimp only; done) | rfl), hS505.ext⟩
                    ·
                      have ht537 := bn_f ht530
                      have hp538 := of_decide_eq_true ht537
                      have hE539 := hE529; rw [ht530] at hE539; clear hE529
                      refine wp_skip ?_
                      refine p_tn ?_
                      refine c_seq ?_
                      refine d_start (fun w w' => (fun w' => w'.heap[b5]? = some (.cells #[.int .i64 mp0, .slice mp1A mp1.length mp1C, .slice mp2A mp2.length mp2C] 26 (0, 0)) ∧ w'.heap[b11]? = some (.cells #[.int .i64 np0, .slice np1A np1.length np1C, .slice np2A np2.length np2C] 26 (0, 0)) ∧ True) w → (fun w' => w'.heap[b5]? = some (.cells #[.int .i64 mp0, .slice mp1A mp1.length mp1C, .slice mp2A mp2.length mp2C] 26 (0, 0)) ∧ w'.heap[b11]? = some (.cells #[.int .i64 np0, .slice np1A np1.length np1C, .slice np2A np2.length np2C] 26 (0, 0)) ∧ True) w') [0, 2] 11 (by kernel_rfl) rfl ?_
                      intro w540 he541; have hS542 := St.go hS505 he541; clear hS505
                      refine d_take (fun _ h => h) (fun _ _ h k => h k) (v := .agg #[.int .i64 mp0, .slice mp1A mp1.length mp1C, .slice mp2A mp2.length mp2C]) 0 rfl hE539 (S := fun w' => w'.heap[b5]? = some (.cells #[.int .i64 mp0, .slice mp1A mp1.length mp1C, .slice mp2A mp2.length mp2C] 26 (0, 0)) ∧ w'.heap[b11]? = some (.cells #[.int .i64 np0, .slice np1A np1.length np1C, .slice np2A np2.length np2C] 26 (0, 0)) ∧ True) ⟨(St.row (i := 21) hS542 rfl _ (Ext.refl _)), (St.row (i := 18) hS542 rfl _ (Ext.refl _)), trivial⟩ (y_loadS Try.underlying26 rfl (by kernel_rfl) rfl (fun _ h => h.1)) rfl rfl (by kernel_rfl) (by kernel_rfl) (by kernel_rfl) (by kernel_rfl) rfl rfl (fun _ _ _ h => h) ?_; intro a543 hE544; clear hE539
                      refine d_take (fun _ h => h) (fun _ _ h k => h k) (v := .agg #[.int .i64 np0, .slice np1A np1.length np1C, .slice np2A np2.length np2C]) 2 rfl hE544 (S := fun w' => w'.heap[b5]? = some (.cells #[.int .i64 mp0, .slice mp1A mp1.length mp1C, .slice mp2A mp2.length mp2C] 26 (0, 0)) ∧ w'.heap[b11]? = some (.cells #[.int .i64 np0, .slice np1A np1.length np1C, .slice np2A np2.length np2C] 26 (0, 0)) ∧ True) ⟨(St.row (i := 21) hS542 rfl _ (Ext.refl _)), (St.row (i := 18) hS542 rfl _ (Ext.refl _)), trivial⟩ (y_loadS Try.underlying26 rfl (by kernel_rfl) rfl (fun _ h => h.2.1)) rfl rfl (by kernel_rfl) (by kernel_rfl) (by kernel_rfl) (by kernel_rfl) rfl rfl (fun _ _ _ h => h) ?_; intro a545 hE546; clear hE544
                      refine d_pure (fun _ h => h) (v := .int .i64 kq) 4 rfl hE546 (y_move rfl) rfl (by kernel_rfl) (by kernel_rfl) (by kernel_rfl) rfl rfl (fun _ _ _ h => h) ?_; intro a547 hE548; clear hE546
                      refine d_only 1 (by kernel_rfl) rfl hE548 rfl (l_call (f := 17) (argv := [.agg #[.int .i64 mp0, .slice mp1A mp1.length mp1C, .slice mp2A mp2.length mp2C]]) hE548 (fun _ => cf_l_toModel _ _) rfl rfl (d_l_toModel mp0 mp1A mp1.length mp1C mp1 mp2A mp2.length mp2C mp2 w540 (St.rdR (i := 19) hS542 rfl) (St.rdR (i := 20) hS542 rfl) (by first | omega | (simp only [marked_len]; omega) | (simp only [marked_len] at *; omega)) (by first | omega | (simp only [marked_len]; omega) | (simp only [marked_len] at *; omega))) ?_)
                      rintro _ w550 ⟨b555, c556, b557, c558, rfl, ho559, he554⟩ a551 hE552; clear hE548
                      have hS553 := St.push2 hS542 he554 ho559; clear hS542
                      refine ⟨fun _ _ => ⟨(St.row (i := 23) hS553 rfl _ (Ext.refl _)), (St.row (i := 20) hS553 rfl _ (Ext.refl _)), trivial⟩, ?_⟩
                      refine d_only 3 (by kernel_rfl) rfl hE552 rfl (l_call (f := 17) (argv := [.agg #[.int .i64 np0, .slice np1A np1.length np1C, .slice np2A np2.length np2C]]) hE552 (fun _ => cf_l_toModel _ _) rfl rfl (d_l_toModel np0 np1A np1.length np1C np1 np2A np2.length np2C np2 w550 (St.rdR (i := 18) hS553 rfl) (St.rdR (i := 19) hS553 rfl) (by first | omega | (simp only [marked_len]; omega) | (simp only [marked_len] at *; omega)) (by first | omega | (simp only [marked_len]; omega) | (simp only [marked_len] at *; omega))) ?_)
                      rintro _ w562 ⟨b567, c568, b569, c570, rfl, ho571, he566⟩ a563 hE564; clear hE552
                      have hS565 := St.push2 hS553 he566 ho571; clear hS553
                      refine ⟨fun h => Bool.noConfusion (h.symm.trans (show exm _ _ _ = true by kernel_rfl)), ?_⟩
                      refine d_only 5 (by kernel_rfl) rfl hE564 rfl (l_call (f := 25) (argv := [.agg #[.int .i64 mp0, .slice b555 ((mp1).length) c556, .slice b557 ((mp2).length) c558], .agg #[.int .i64 np0, .slice b567 ((np1).length) c568, .slice b569 ((np2).length) c570], .int .i64 kq]) hE564 (fun _ => cf_BoundedBisimulation _ _) rfl rfl (c_BoundedBisimulation mp0 b555 ((mp1).length) c556 mp1 b557 ((mp2).length) c558 mp2 np0 b567 ((np1).length) c568 np1 b569 ((np2).length) c570 np2 kq w562 (St.rdO (i := 2) hS565 rfl) (St.rdO (i := 3) hS565 rfl) (St.rdO (i := 0) hS565 rfl) (St.rdO (i := 1) hS565 rfl)) ?_)
                      rintro _ w574 ⟨b579, c580, rfl, ho581, he578⟩ a575 hE576; clear hE564
                      have hf582 := BoundedBisimulation_len mp0 mp1 mp2 np0 np1 np2 kq
                      have hS577 := St.own hS565 he578 ho581; clear hS565
                      refine ⟨fun h => Bool.noConfusion (h.symm.trans (show exm _ _ _ = true by kernel_rfl)), ?_⟩
                      refine d_pure (fun _ h => h) (v := .tuple #[.slice b579 (((F_BoundedBisimulation mp0 mp1 mp2 np0 np1 np2 kq).1).length) c580, .int .i64 ((F_BoundedBisimulation mp0 mp1 mp2 np0 np1 np2 kq).2)]) 6 rfl hE576 (y_move rfl) rfl (by kernel_rfl) (by kernel_rfl) (by kernel_rfl) rfl rfl (fun _ _ _ h => h) ?_; intro a583 hE584; clear hE576
                      refine d_pure (fun _ h => h) (v := .slice b579 (((F_BoundedBisimulation mp0 mp1 mp2 np0 np1 np2 kq).1).length) c580) 7 rfl hE584 (y_extract rfl rfl) rfl (by kernel_rfl) (by kernel_rfl) (by kernel_rfl) rfl rfl (fun _ _ _ h => h) ?_; intro a585 hE586; clear hE584
                      refine d_pure (fun _ h => h) (v := .int .i64 ((F_BoundedBisimulation mp0 mp1 mp2 np0 np1 np2 kq).2)) 8 rfl hE586 (y_extract rfl rfl) rfl (by kernel_rfl) (by kernel_rfl) (by kernel_rfl) rfl rfl (fun _ _ _ h => h) ?_; intro a587 hE588; clear hE586
                      refine d_pure (fun _ h => h) (v := .slice b579 (((F_BoundedBisimulation mp0 mp1 mp2 np0 np1 np2 kq).1).length) c580) 9 rfl hE588 (y_assign rfl) rfl (by kernel_rfl) (by kernel_rfl) (by kernel_rfl) rfl rfl (fun _ _ _ h => h) ?_; intro a589 hE590; clear hE588
                      refine d_pure (fun _ h => h) (v := .int .i64 ((F_BoundedBisimulation mp0 mp1 mp2 np0 np1 np2 kq).2)) 10 rfl hE590 (y_assign rfl) rfl (by kernel_rfl) (by kernel_rfl) (by kernel_rfl) rfl rfl (fun _ _ _ h => h) ?_; intro a591 hE592; clear hE590
                      refine d_done (by kernel_rfl) ?_
                      have hE593 := hE592.sub (L' := [(8, .slice b116 (((F_s_BoundedBisimulation mp0 mp1 mp2 np0 np1 np2 kq).1).length) c117), (9, .int .i64 ((F_s_BoundedBisimulation mp0 mp1 mp2 np0 np1 np2 kq).2)), (12, .slice b196 (((F_BoundedBisimulation mp0 mp1 mp2 np0 np1 np2 kq).1).length) c197), (15, .int .i64 (1 + (((F_BoundedBisimulation mp0 mp1 mp2 np0 np1 np2 kq).1).length : Int))), (17, .slice b579 (((F_BoundedBisimulation mp0 mp1 mp2 np0 np1 np2 kq).1).length) c580), (18, .int .i64 ((F_BoundedBisimulation mp0 mp1 mp2 np0 np1 np2 kq).2))]) ⟨rfl, rfl, rfl, rfl, rfl, rfl, trivial⟩; clear hE592
                      refine p_tn ?_
                      refine c_seq ?_
                      refine c_cut (fun a' w' => E a' 124 [(12, .slice b196 (((F_BoundedBisimulation mp0 mp1 mp2 np0 np1 np2 kq).1).length) c197), (15, .int .i64 (1 + (((F_BoundedBisimulation mp0 mp1 mp2 np0 np1 np2 kq).1).length : Int))), (115, .bool ((!(decide (((F_BoundedBisimulation mp0 mp1 mp2 np0 np1 np2 kq).1) = ((F_s_BoundedBisimulation mp0 mp1 mp2 np0 np1 np2 kq).1)))) || (!decide (((F_BoundedBisimulation mp0 mp1 mp2 np0 np1 np2 kq).2) = ((F_s_BoundedBisimulation mp0 mp1 mp2 np0 np1 np2 kq).2)))))] ∧ St w w' [.own 2 1 b579 (((F_BoundedBisimulation mp0 mp1 mp2 np0 np1 np2 kq).1).length) c580 ((F_BoundedBisimulation mp0 mp1 mp2 np0 np1 np2 kq).1), .own 2 1 b567 ((np1).length) c568 np1, .own 2 1 b569 ((np2).length) c570 np2, .own 2 1 b555 ((mp1).length) c556 mp1, .own 2 1 b557 ((mp2).length) c558 mp2, .own 2 1 b196 (((F_BoundedBisimulation mp0 mp1 mp2 np0 np1 np2 kq).1).length) c197 (marked ((F_BoundedBisimulation mp0 mp1 mp2 np0 np1 np2 kq).1).length 1), .own 2 1 b167 ((np2).length) c168 (marked np2.length ((1 + (mp1.length : Int) + (mp2.length : Int)) + (np1.length : Int))), .own 2 1 b165 ((np1).length) c166 (marked np1.length (1 + (mp1.length : Int) + (mp2.length : Int))), .own 2 1 b140 ((mp2).length) c141 (marked mp2.length (1 + (mp1.length : Int))), .own 2 1 b138 ((mp1).length) c139 (marked mp1.length 1), .own 2 1 b322 ((np1).length) c323 np1, .own 2 1 b324 ((np2).length) c325 np2, .own 2 1 b284 ((mp1).length) c285 mp1, .own 2 1 b286 ((mp2).length) c287 mp2, .blk b171 #[.int .i64 np0, .slice b165 ((np1).length) c166, .slice b167 ((np2).length) c168] 32, .blk b144 #[.int .i64 mp0, .slice b138 ((mp1).length) c139, .slice b140 ((mp2).length) c141] 32, .own 2 1 b116 (((F_s_BoundedBisimulation mp0 mp1 mp2 np0 np1 np2 kq).1).length) c117 ((F_s_BoundedBisimulation mp0 mp1 mp2 np0 np1 np2 kq).1), .own 2 1 b104 ((np1).length) c105 np1, .own 2 1 b106 ((np2).length) c107 np2, .own 2 1 b92 ((mp1).length) c93 mp1, .own 2 1 b94 ((mp2).length) c95 mp2, .rd 1 np1A np1.length np1C np1, .rd 1 np2A np2.length np2C np2, .blk b11 #[.int .i64 np0, .slice np1A np1.length np1C, .slice np2A np2.length np2C] 26, .rd 1 mp1A mp1.length mp1C mp1, .rd 1 mp2A mp2.length mp2C mp2, .blk b5 #[.int .i64 mp0, .slice mp1A mp1.length mp1C, .slice mp2A mp2.length mp2C] 26]) ?_ ?_
                      ·
                        refine c_reg ?_
                        refine q_step (v := .slice b579 (((F_BoundedBisimulation mp0 mp1 mp2 np0 np1 np2 kq).1).length) c580) hE593 (y_move rfl) rfl rfl rfl ?_; intro a594 hE595; clear hE593
                        refine q_step (v := .slice b116 (((F_s_BoundedBisimulation mp0 mp1 mp2 np0 np1 np2 kq).1).length) c117) hE595 (y_move rfl) rfl rfl rfl ?_; intro a596 hE597; clear hE595
                        refine l_step hE597 rfl (l_call (f := 19) (argv := [.slice b579 (((F_BoundedBisimulation mp0 mp1 mp2 np0 np1 np2 kq).1).length) c580, .slice b116 (((F_s_BoundedBisimulation mp0 mp1 mp2 np0 np1 np2 kq).1).length) c117]) hE597 (fun _ => cf_l_eqInt64S _ _) rfl rfl (d_l_eqInt64S b579 (((F_BoundedBisimulation mp0 mp1 mp2 np0 np1 np2 kq).1).length) c580 ((F_BoundedBisimulation mp0 mp1 mp2 np0 np1 np2 kq).1) b116 (((F_s_BoundedBisimulation mp0 mp1 mp2 np0 np1 np2 kq).1).length) c117 ((F_s_BoundedBisimulation mp0 mp1 mp2 np0 np1 np2 kq).1) w574 (St.rdO (i := 0) hS577 rfl) (St.rdO (i := 16) hS577 rfl)) ?_)
                        rintro _ w599 ⟨rfl, he603⟩ a600 hE601; clear hE597
                        have hS602 := St.go hS577 he603; clear hS577
                        refine q_step (v := .bool (!(decide (((F_BoundedBisimulation mp0 mp1 mp2 np0 np1 np2 kq).1) = ((F_s_BoundedBisimulation mp0 mp1 mp2 np0 np1 np2 kq).1))))) hE601 (y_not rfl) rfl rfl rfl ?_; intro a604 hE605; clear hE601
                        refine q_step (v := .bool (!(decide (((F_BoundedBisimulation mp0 mp1 mp2 np0 np1 np2 kq).1) = ((F_s_BoundedBisimulation mp0 mp1 mp2 np0 np1 np2 kq).1))))) hE605 (y_move rfl) rfl rfl rfl ?_; intro a606 hE607; clear hE605
                        rcases Bool.eq_false_or_eq_true (!(decide (((F_BoundedBisimulation mp0 mp1 mp2 np0 np1 np2 kq).1) = ((F_s_BoundedBisimulation mp0 mp1 mp2 np0 np1 np2 kq).1)))) with hb608 | hb608
                        ·
                          have hE609 := hE607; (try rw [hb608] at hE609); clear hE607
                          have ht610 := bn_t hb608
                          have hp611 := of_decide_eq_false ht610
                          refine q_skip hE609 rfl rfl rfl ?_; intro a612 hE613; clear hE609
                          refine q_skip hE613 rfl rfl rfl ?_; intro a614 hE615; clear hE613
                          refine q_skip hE615 rfl rfl rfl ?_; intro a616 hE617; clear hE615
                          refine q_step (v := .bool true) hE617 (y_pick (b := true) rfl rfl) rfl rfl rfl ?_; intro a618 hE619; clear hE617
                          refine c_nil ?_
                          have hE620 := hE619.sub (L' := [(12, .slice b196 (((F_BoundedBisimulation mp0 mp1 mp2 np0 np1 np2 kq).1).length) c197), (15, .int .i64 (1 + (((F_BoundedBisimulation mp0 mp1 mp2 np0 np1 np2 kq).1).length : Int))), (115, .bool true)]) ⟨rfl, rfl, rfl, trivial⟩; clear hE619
                          refine p_tn ?_
                          have hE621 := hE620.sub (L' := [(12, .slice b196 (((F_BoundedBisimulation mp0 mp1 mp2 np0 np1 np2 kq).1).length) c197), (15, .int .i64 (1 + (((F_BoundedBisimulation mp0 mp1 mp2 np0 np1 np2 kq).1).length : Int))), (115, .bool true)]) ⟨rfl, rfl, rfl, trivial⟩
                          have hS622 := (St.pick (Γ' := [.own 2 1 b579 (((F_BoundedBisimulation mp0 mp1 mp2 np0 np1 np2 kq).1).length) c580 ((F_BoundedBisimulation mp0 mp1 mp2 np0 np1 np2 kq).1), .own 2 1 b567 ((np1).length) c568 np1, .own 2 1 b569 ((np2).length) c570 np2, .own 2 1 b555 ((mp1).length) c556 mp1, .own 2 1 b557 ((mp2).length) c558 mp2, .own 2 1 b196 (((F_BoundedBisimulation mp0 mp1 mp2 np0 np1 np2 kq).1).length) c197 (marked ((F_BoundedBisimulation mp0 mp1 mp2 np0 np1 np2 kq).1).length 1), .own 2 1 b167 ((np2).length) c168 (marked np2.length ((1 + (mp1.length : Int) + (mp2.length : Int)) + (np1.length : Int))), .own 2 1 b165 ((np1).length) c166 (marked np1.length (1 + (mp1.length : Int) + (mp2.length : Int))), .own 2 1 b140 ((mp2).length) c141 (marked mp2.length (1 + (mp1.length : Int))), .own 2 1 b138 ((mp1).length) c139 (marked mp1.length 1), .own 2 1 b322 ((np1).length) c323 np1, .own 2 1 b324 ((np2).length) c325 np2, .own 2 1 b284 ((mp1).length) c285 mp1, .own 2 1 b286 ((mp2).length) c287 mp2, .blk b171 #[.int .i64 np0, .slice b165 ((np1).length) c166, .slice b167 ((np2).length) c168] 32, .blk b144 #[.int .i64 mp0, .slice b138 ((mp1).length) c139, .slice b140 ((mp2).length) c141] 32, .own 2 1 b116 (((F_s_BoundedBisimulation mp0 mp1 mp2 np0 np1 np2 kq).1).length) c117 ((F_s_BoundedBisimulation mp0 mp1 mp2 np0 np1 np2 kq).1), .own 2 1 b104 ((np1).length) c105 np1, .own 2 1 b106 ((np2).length) c107 np2, .own 2 1 b92 ((mp1).length) c93 mp1, .own 2 1 b94 ((mp2).length) c95 mp2, .rd 1 np1A np1.length np1C np1, .rd 1 np2A np2.length np2C np2, .blk b11 #[.int .i64 np0, .slice np1A np1.length np1C, .slice np2A np2.length np2C] 26, .rd 1 mp1A mp1.length mp1C mp1, .rd 1 mp2A mp2.length mp2C mp2, .blk b5 #[.int .i64 mp0, .slice mp1A mp1.length mp1C, .slice mp2A mp2.length mp2C] 26]) hS602 [0, 1, 2, 3, 4, 5, 6, 7, 8, 9, 10, 11, 12, 13, 14, 15, 16, 17, 18, 19, 20, 21, 22, 23, 24, 25, 26] (by decide) rfl)
                          exact ⟨(by rw [hb608]; exact hE621), hS622⟩
                        ·
                          have hE623 := hE607; (try rw [hb608] at hE623); clear hE607
                          have ht624 := bn_f hb608
                          have hp625 := of_decide_eq_true ht624
                          refine q_step (v := .int .i64 ((F_BoundedBisimulation mp0 mp1 mp2 np0 np1 np2 kq).2)) hE623 (y_move rfl) rfl rfl rfl ?_; intro a626 hE627; clear hE623
                          refine q_step (v := .int .i64 ((F_s_BoundedBisimulation mp0 mp1 mp2 np0 np1 np2 kq).2)) hE627 (y_move rfl) rfl rfl rfl ?_; intro a628 hE629; clear hE627
                          refine q_step (v := .bool (!decide (((F_BoundedBisimulation mp0 mp1 mp2 np0 np1 np2 kq).2) = ((F_s_BoundedBisimulation mp0 mp1 mp2 np0 np1 np2 kq).2)))) hE629 (y_neq rfl rfl) rfl rfl rfl ?_; intro a630 hE631; clear hE629
                          refine q_step (v := .bool (!decide (((F_BoundedBisimulation mp0 mp1 mp2 np0 np1 np2 kq).2) = ((F_s_BoundedBisimulation mp0 mp1 mp2 np0 np1 np2 kq).2)))) hE631 (y_pick (b := false) rfl rfl) rfl rfl rfl ?_; intro a632 hE633; clear hE631
                          refine c_nil ?_
                          have hE634 := hE633.sub (L' := [(12, .slice b196 (((F_BoundedBisimulation mp0 mp1 mp2 np0 np1 np2 kq).1).length) c197), (15, .int .i64 (1 + (((F_BoundedBisimulation mp0 mp1 mp2 np0 np1 np2 kq).1).length : Int))), (115, .bool (!decide (((F_BoundedBisimulation mp0 mp1 mp2 np0 np1 np2 kq).2) = ((F_s_BoundedBisimulation mp0 mp1 mp2 np0 np1 np2 kq).2))))]) ⟨rfl, rfl, rfl, trivial⟩; clear hE633
                          refine p_tn ?_
                          have hE635 := hE634.sub (L' := [(12, .slice b196 (((F_BoundedBisimulation mp0 mp1 mp2 np0 np1 np2 kq).1).length) c197), (15, .int .i64 (1 + (((F_BoundedBisimulation mp0 mp1 mp2 np0 np1 np2 kq).1).length : Int))), (115, .bool (!decide (((F_BoundedBisimulation mp0 mp1 mp2 np0 np1 np2 kq).2) = ((F_s_BoundedBisimulation mp0 mp1 mp2 np0 np1 np2 kq).2))))]) ⟨rfl, rfl, rfl, trivial⟩
                          have hS636 := (St.pick (Γ' := [.own 2 1 b579 (((F_BoundedBisimulation mp0 mp1 mp2 np0 np1 np2 kq).1).length) c580 ((F_BoundedBisimulation mp0 mp1 mp2 np0 np1 np2 kq).1), .own 2 1 b567 ((np1).length) c568 np1, .own 2 1 b569 ((np2).length) c570 np2, .own 2 1 b555 ((mp1).length) c556 mp1, .own 2 1 b557 ((mp2).length) c558 mp2, .own 2 1 b196 (((F_BoundedBisimulation mp0 mp1 mp2 np0 np1 np2 kq).1).length) c197 (marked ((F_BoundedBisimulation mp0 mp1 mp2 np0 np1 np2 kq).1).length 1), .own 2 1 b167 ((np2).length) c168 (marked np2.length ((1 + (mp1.length : Int) + (mp2.length : Int)) + (np1.length : Int))), .own 2 1 b165 ((np1).length) c166 (marked np1.length (1 + (mp1.length : Int) + (mp2.length : Int))), .own 2 1 b140 ((mp2).length) c141 (marked mp2.length (1 + (mp1.length : Int))), .own 2 1 b138 ((mp1).length) c139 (marked mp1.length 1), .own 2 1 b322 ((np1).length) c323 np1, .own 2 1 b324 ((np2).length) c325 np2, .own 2 1 b284 ((mp1).length) c285 mp1, .own 2 1 b286 ((mp2).length) c287 mp2, .blk b171 #[.int .i64 np0, .slice b165 ((np1).length) c166, .slice b167 ((np2).length) c168] 32, .blk b144 #[.int .i64 mp0, .slice b138 ((mp1).length) c139, .slice b140 ((mp2).length) c141] 32, .own 2 1 b116 (((F_s_BoundedBisimulation mp0 mp1 mp2 np0 np1 np2 kq).1).length) c117 ((F_s_BoundedBisimulation mp0 mp1 mp2 np0 np1 np2 kq).1), .own 2 1 b104 ((np1).length) c105 np1, .own 2 1 b106 ((np2).length) c107 np2, .own 2 1 b92 ((mp1).length) c93 mp1, .own 2 1 b94 ((mp2).length) c95 mp2, .rd 1 np1A np1.length np1C np1, .rd 1 np2A np2.length np2C np2, .blk b11 #[.int .i64 np0, .slice np1A np1.length np1C, .slice np2A np2.length np2C] 26, .rd 1 mp1A mp1.length mp1C mp1, .rd 1 mp2A mp2.length mp2C mp2, .blk b5 #[.int .i64 mp0, .slice mp1A mp1.length mp1C, .slice mp2A mp2.length mp2C] 26]) hS602 [0, 1, 2, 3, 4, 5, 6, 7, 8, 9, 10, 11, 12, 13, 14, 15, 16, 17, 18, 19, 20, 21, 22, 23, 24, 25, 26] (by decide) rfl)
                          exact ⟨(by rw [hb608]; exact hE635), hS636⟩
                      ·
                        rintro a637 w638 ⟨hE639, hS640⟩; clear hE593 hS577
                        have hE642 := hE639; rw [ht259] at hE642; clear hE639
                        refine c_false hE642 rfl ?_
                        refine wp_skip ?_
                        refine p_tn ?_
                        refine c_seq ?_
                        refine c_reg ?_
                        refine q_step (v := .int .i64 1) hE642 (y_assign rfl) rfl rfl rfl ?_; intro a643 hE644; clear hE642
                        refine c_nil ?_
                        have hE645 := hE644.sub (L' := [(12, .slice b196 (((F_BoundedBisimulation mp0 mp1 mp2 np0 np1 np2 kq).1).length) c197), (15, .int .i64 (1 + (((F_BoundedBisimulation mp0 mp1 mp2 np0 np1 np2 kq).1).length : Int))), (16, .int .i64 1)]) ⟨rfl, rfl, rfl, trivial⟩; clear hE644
                        refine p_tn ?_
                        refine c_seq ?_
                        refine c_reg ?_
                        refine q_step (v := .slice b196 (((F_BoundedBisimulation mp0 mp1 mp2 np0 np1 np2 kq).1).length) c197) hE645 (y_move rfl) rfl rfl rfl ?_; intro a646 hE647; clear hE645
                        refine q_step (v := .int .i64 1) hE647 (y_move rfl) rfl rfl rfl ?_; intro a648 hE649; clear hE647
                        refine l_step hE649 rfl (l_call (f := 23) (argv := [.slice b196 (((F_BoundedBisimulation mp0 mp1 mp2 np0 np1 np2 kq).1).length) c197, .int .i64 1]) hE649 (fun _ => cf_l_heldInt64S _ _) rfl rfl (c_l_heldInt64S b196 (((F_BoundedBisimulation mp0 mp1 mp2 np0 np1 np2 kq).1).length) c197 (marked ((F_BoundedBisimulation mp0 mp1 mp2 np0 np1 np2 kq).1).length 1) 1 w638 (St.rdO (i := 5) hS640 rfl) (by first | omega | (simp only [marked_len]; omega) | (simp only [marked_len] at *; omega)) (by first | omega | (simp only [marked_len]; omega) | (simp only [marked_len] at *; omega)) (by first | omega | (simp only [marked_len]; omega) | (simp only [marked_len] at *; omega))) ?_)
                        rintro _ w651 ⟨rfl, he655⟩ a652 hE653; clear hE649
                        have hS654 := St.go hS640 he655; clear hS640
                        refine q_step (v := .int .i64 (F_l_heldInt64S (marked ((F_BoundedBisimulation mp0 mp1 mp2 np0 np1 np2 kq).1).length 1) 1)) hE653 (y_assign rfl) rfl rfl rfl ?_; intro a656 hE657; clear hE653
                        refine c_nil ?_
                        have hE658 := hE657.sub (L' := [(15, .int .i64 (1 + (((F_BoundedBisimulation mp0 mp1 mp2 np0 np1 np2 kq).1).length : Int))), (16, .int .i64 (F_l_heldInt64S (marked ((F_BoundedBisimulation mp0 mp1 mp2 np0 np1 np2 kq).1).length 1) 1))]) ⟨rfl, rfl, trivial⟩; clear hE657
                        refine p_tn ?_
                        refine c_seq ?_
                        refine c_seq ?_
                        refine c_reg ?_
                        refine q_step (v := .int .i64 (F_l_heldInt64S (marked ((F_BoundedBisimulation mp0 mp1 mp2 np0 np1 np2 kq).1).length 1) 1)) hE658 (y_move rfl) rfl rfl rfl ?_; intro a659 hE660; clear hE658
                        refine q_step (v := .bool (decide ((F_l_heldInt64S (marked ((F_BoundedBisimulation mp0 mp1 mp2 np0 np1 np2 kq).1).length 1) 1) < 0))) hE660 (y_lss rfl rfl) rfl rfl rfl ?_; intro a661 hE662; clear hE660
                        refine c_nil ?_
                        have hE663 := hE662.sub (L' := [(15, .int .i64 (1 + (((F_BoundedBisimulation mp0 mp1 mp2 np0 np1 np2 kq).1).length : Int))), (16, .int .i64 (F_l_heldInt64S (marked ((F_BoundedBisimulation mp0 mp1 mp2 np0 np1 np2 kq).1).length 1) 1)), (120, .bool (decide ((F_l_heldInt64S (marked ((F_BoundedBisimulation mp0 mp1 mp2 np0 np1 np2 kq).1).length 1) 1) < 0)))]) ⟨rfl, rfl, rfl, trivial⟩; clear hE662
                        refine p_tn ?_
                        have hE664 := hE663; rw [ht515] at hE664; clear hE663
                        refine c_false hE664 rfl ?_
                        refine wp_skip ?_
                        refine p_tn ?_
                        refine c_seq ?_
                        refine c_seq ?_
                        refine c_reg ?_
                        refine q_step (v := .int .i64 (F_l_heldInt64S (marked ((F_BoundedBisimulation mp0 mp1 mp2 np0 np1 np2 kq).1).length 1) 1)) hE664 (y_move rfl) rfl rfl rfl ?_; intro a665 hE666; clear hE664
                        refine q_step (v := .int .i64 (1 + (((F_BoundedBisimulation mp0 mp1 mp2 np0 np1 np2 kq).1).length : Int))) hE666 (y_move rfl) rfl rfl rfl ?_; intro a667 hE668; clear hE666
                        refine q_step (v := .bool (!decide ((F_l_heldInt64S (marked ((F_BoundedBisimulation mp0 mp1 mp2 np0 np1 np2 kq).1).length 1) 1) = (1 + (((F_BoundedBisimulation mp0 mp1 mp2 np0 np1 np2 kq).1).length : Int))))) hE668 (y_neq rfl rfl) rfl rfl rfl ?_; intro a669 hE670; clear hE668
                        refine c_nil ?_
                        have hE671 := hE670.sub (L' := [(123, .bool (!decide ((F_l_heldInt64S (marked ((F_BoundedBisimulation mp0 mp1 mp2 np0 np1 np2 kq).1).length 1) 1) = (1 + (((F_BoundedBisimulation mp0 mp1 mp2 np0 np1 np2 kq).1).length : Int)))))]) ⟨rfl, trivial⟩; clear hE670
                        refine p_tn ?_
                        have hE672 := hE671; rw [ht530] at hE672; clear hE671
                        refine c_false hE672 rfl ?_
                        refine wp_skip ?_
                        refine p_tn ?_
                        refine c_seq ?_
                        refine c_reg ?_
                        refine q_step (v := .bool true) hE672 (y_assign rfl) rfl rfl rfl ?_; intro a673 hE674; clear hE672
                        refine c_nil ?_
                        have hE675 := hE674.sub (L' := [(6, .bool true)]) ⟨rfl, trivial⟩; clear hE674
                        refine p_tn ?_
                        refine wp_ret ?_
                        have hF : F_l_FnExactBoundedBisimulation mp0 mp1 mp2 np0 np1 np2 kq = true := by unfold F_l_FnExactBoundedBisimulation; rw [ht530, ht515, ht462, ht337, ht299, ht259, ht68, ht41]; first | done | rfl
                        refine c_ret1 hE675 rfl rfl ?_
                        exact ⟨(by rw [hF]; first | done | (dsimp only; done) | rfl), hS654.ext⟩

theorem FnExactBoundedBisimulation_true (mp0 : Int) (mp1 mp2 : List Int) (np0 : Int) (np1 np2 : List Int) (k : Int) : F_l_FnExactBoundedBisimulation mp0 mp1 mp2 np0 np1 np2 k = true := by
  unfold F_l_FnExactBoundedBisimulation
  rw [(BoundedBisimulation_eq mp0 mp1 mp2 np0 np1 np2 k).1, heldI_eq]
  have h1 : decide (1 + (mp1.length : Int) + (mp2.length : Int) + (np1.length : Int) + (np2.length : Int) < 0) = false := decide_eq_false (by omega)
  have h2 : decide ((1 : Int) + ((F_s_BoundedBisimulation mp0 mp1 mp2 np0 np1 np2 k).1.length : Int) < 0) = false := decide_eq_false (by omega)
  simp [h1, h2]


end Go.Proofs.Ytlbonhloeefnmaa
