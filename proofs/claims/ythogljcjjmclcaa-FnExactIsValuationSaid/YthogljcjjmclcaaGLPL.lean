/- GLPL: models and contracts, printed by wip/gen/gen.py -/
import Derived.Test.YthogljcjjmclcaaGA
import Derived.Test.YthogljcjjmclcaaGPL
set_option linter.unusedVariables false
set_option linter.unusedSimpArgs false
namespace Go.Proofs.Ythogljcjjmclcaa
open Go.RowKit

def F_l_FnExactIsValuation (pp0 : Int) (pp1 : List Int) (vals : List Int) : Bool :=
  bif (decide (1048576 < (vals.length : Int))) then true else (bif (decide ((F_l_szPoset pp0 pp1 1048576) < 0)) then true else (bif ((F_IsValuation pp0 pp1 vals) != (F_s_IsValuation pp0 pp1 vals)) then false else (bif (!(decide ((pp0, pp1) = (pp0, pp1)))) then false else (bif (!(decide (vals = vals))) then false else true))))
theorem cf_l_FnExactIsValuation (args : Array Value) (w : World) : (callFunc 12 args).run Try.prog w = .ok (.enter 12 args) w := by kernel_rfl
set_option maxRecDepth 100000 in
theorem c_l_FnExactIsValuation (pp0 : Int) (pp1A : Option Addr) (pp1N pp1C : Nat) (pp1 : List Int) (valsA : Option Addr) (valsN valsC : Nat) (vals : List Int) (w : World) (pp1R : RdS w 1 pp1A pp1N pp1C pp1) (valsR : RdS w 1 valsA valsN valsC vals) :
    Calls Try.prog 12 #[.agg #[.int .i64 pp0, .slice pp1A pp1N pp1C], .slice valsA valsN valsC] w (Ret fun v w' => v = .bool (F_l_FnExactIsValuation pp0 pp1 vals) ∧ Ext w w') := by
  obtain rfl : pp1N = pp1.length := pp1R.len1.symm
  have pp1Le := pp1R.le
  obtain rfl : valsN = vals.length := valsR.len1.symm
  have valsLe := valsR.le
  have hS := St.nil w
  have hS1 := St.rd0 hS rfl pp1R; clear hS
  have hS2 := St.rd0 hS1 rfl valsR; clear hS1
  refine enter (args := [.agg #[.int .i64 pp0, .slice pp1A pp1.length pp1C], .slice valsA vals.length valsC]) Try.func12 rfl rfl ?_
  rw [Try.ntmps12]; intro a hE
  have hE := hE.sub (L' := [(0, .agg #[.int .i64 pp0, .slice pp1A pp1.length pp1C]), (1, .slice valsA vals.length valsC)]) ⟨rfl, rfl, trivial⟩
  refine c_seq ?_
  refine c_reg ?_
  refine l_step hE rfl (l_box (v := .agg #[.int .i64 pp0, .slice pp1A pp1.length pp1C]) (cs := #[.int .i64 pp0, .slice pp1A pp1.length pp1C]) hS2 hE rfl rfl rfl ?_)
  intro b3 w4 hS7 he8 a5 hE6; clear hS2 hE
  refine q_step (v := .bool false) hE6 (y_assign rfl) rfl rfl rfl ?_; intro a9 hE10; clear hE6
  refine c_nil ?_
  have hE11 := hE10.sub (L' := [(1, .slice valsA vals.length valsC), (2, .pointer (some ⟨b3, 0, none⟩))]) ⟨rfl, rfl, trivial⟩; clear hE10
  refine p_tn ?_
  refine c_seq ?_
  refine c_seq ?_
  refine c_reg ?_
  refine q_step (v := .slice valsA vals.length valsC) hE11 (y_move rfl) rfl rfl rfl ?_; intro a12 hE13; clear hE11
  refine q_step (v := .int .i64 (vals.length : Int)) hE13 (y_len (e := 2) (by kernel_rfl) rfl) rfl rfl rfl ?_; intro a14 hE15; clear hE13
  refine q_step (v := .bool (decide (1048576 < (vals.length : Int)))) hE15 (y_gtr rfl rfl) rfl rfl rfl ?_; intro a16 hE17; clear hE15
  refine c_nil ?_
  have hE18 := hE17.sub (L' := [(1, .slice valsA vals.length valsC), (2, .pointer (some ⟨b3, 0, none⟩)), (12, .bool (decide (1048576 < (vals.length : Int))))]) ⟨rfl, rfl, rfl, trivial⟩; clear hE17
  refine p_tn ?_
  refine c_cond hE18 rfl (fun ht19 => ?_) (fun ht19 => ?_)
  ·
    have hp20 := of_decide_eq_true ht19
    have hE21 := hE18; rw [ht19] at hE21; clear hE18
    refine c_seq ?_
    refine c_reg ?_
    refine q_step (v := .bool true) hE21 (y_assign rfl) rfl rfl rfl ?_; intro a22 hE23; clear hE21
    refine c_nil ?_
    have hE24 := hE23.sub (L' := [(4, .bool true)]) ⟨rfl, trivial⟩; clear hE23
    refine p_tn ?_
    refine wp_ret ?_
    refine p_tr ?_
    have hF : F_l_FnExactIsValuation pp0 pp1 vals = true := by unfold F_l_FnExactIsValuation; rw [ht19]; first | done | rfl
    refine c_ret1 hE24 rfl rfl ?_
    exact ⟨(by rw [hF]; first | done | rfl), hS7.ext⟩
  ·
    have hp25 := of_decide_eq_false ht19
    have hE26 := hE18; rw [ht19] at hE26; clear hE18
    refine wp_skip ?_
    refine p_tn ?_
    refine c_seq ?_
    refine c_reg ?_
    refine q_step (v := .int .i64 1048576) hE26 (y_assign rfl) rfl rfl rfl ?_; intro a27 hE28; clear hE26
    refine c_nil ?_
    have hE29 := hE28.sub (L' := [(1, .slice valsA vals.length valsC), (2, .pointer (some ⟨b3, 0, none⟩)), (5, .int .i64 1048576)]) ⟨rfl, rfl, rfl, trivial⟩; clear hE28
    refine p_tn ?_
    refine c_seq ?_
    refine c_reg ?_
    refine q_step (v := .agg #[.int .i64 pp0, .slice pp1A pp1.length pp1C]) hE29 (y_loadS Try.underlying24 rfl (by kernel_rfl) rfl (St.row (i := 0) hS7 rfl)) rfl rfl rfl ?_; intro a30 hE31; clear hE29
    refine q_step (v := .int .i64 1048576) hE31 (y_move rfl) rfl rfl rfl ?_; intro a32 hE33; clear hE31
    refine l_step hE33 rfl (l_call (f := 14) (argv := [.agg #[.int .i64 pp0, .slice pp1A pp1.length pp1C], .int .i64 1048576]) hE33 (fun _ => cf_l_szPoset _ _) rfl rfl (c_l_szPoset pp0 pp1A pp1.length pp1C pp1 1048576 w4 (St.rdR (i := 2) hS7 rfl) (by first | omega | (simp only [marked_len]; omega) | (simp only [marked_len] at *; omega)) (by first | omega | (simp only [marked_len]; omega) | (simp only [marked_len] at *; omega))) ?_)
    rintro _ w35 ⟨rfl, he39⟩ a36 hE37; clear hE33
    have hS38 := St.go hS7 he39; clear hS7
    refine q_step (v := .int .i64 (F_l_szPoset pp0 pp1 1048576)) hE37 (y_assign rfl) rfl rfl rfl ?_; intro a40 hE41; clear hE37
    refine c_nil ?_
    have hE42 := hE41.sub (L' := [(1, .slice valsA vals.length valsC), (2, .pointer (some ⟨b3, 0, none⟩)), (5, .int .i64 (F_l_szPoset pp0 pp1 1048576))]) ⟨rfl, rfl, rfl, trivial⟩; clear hE41
    refine p_tn ?_
    refine c_seq ?_
    refine c_seq ?_
    refine c_reg ?_
    refine q_step (v := .int .i64 (F_l_szPoset pp0 pp1 1048576)) hE42 (y_move rfl) rfl rfl rfl ?_; intro a43 hE44; clear hE42
    refine q_step (v := .bool (decide ((F_l_szPoset pp0 pp1 1048576) < 0))) hE44 (y_lss rfl rfl) rfl rfl rfl ?_; intro a45 hE46; clear hE44
    refine c_nil ?_
    have hE47 := hE46.sub (L' := [(1, .slice valsA vals.length valsC), (2, .pointer (some ⟨b3, 0, none⟩)), (17, .bool (decide ((F_l_szPoset pp0 pp1 1048576) < 0)))]) ⟨rfl, rfl, rfl, trivial⟩; clear hE46
    refine p_tn ?_
    refine c_cond hE47 rfl (fun ht48 => ?_) (fun ht48 => ?_)
    ·
      have hp49 := of_decide_eq_true ht48
      have hE50 := hE47; rw [ht48] at hE50; clear hE47
      refine c_seq ?_
      refine c_reg ?_
      refine q_step (v := .bool true) hE50 (y_assign rfl) rfl rfl rfl ?_; intro a51 hE52; clear hE50
      refine c_nil ?_
      have hE53 := hE52.sub (L' := [(4, .bool true)]) ⟨rfl, trivial⟩; clear hE52
      refine p_tn ?_
      refine wp_ret ?_
      refine p_tr ?_
      have hF : F_l_FnExactIsValuation pp0 pp1 vals = true := by unfold F_l_FnExactIsValuation; rw [ht48, ht19]; first | done | rfl
      refine c_ret1 hE53 rfl rfl ?_
      exact ⟨(by rw [hF]; first | done | rfl), hS38.ext⟩
    ·
      have hp54 := of_decide_eq_false ht48
      have hq55 := szPoset_bound hp54
      have hE56 := hE47; rw [ht48] at hE56; clear hE47
      refine wp_skip ?_
      refine p_tn ?_
      refine c_seq ?_
      refine c_reg ?_
      refine q_step (v := .agg #[.int .i64 pp0, .slice pp1A pp1.length pp1C]) hE56 (y_loadS Try.underlying24 rfl (by kernel_rfl) rfl (St.row (i := 0) hS38 rfl)) rfl rfl rfl ?_; intro a57 hE58; clear hE56
      refine l_step hE58 rfl (l_call (f := 16) (argv := [.agg #[.int .i64 pp0, .slice pp1A pp1.length pp1C]]) hE58 (fun _ => cf_l_toPoset _ _) rfl rfl (d_l_toPoset pp0 pp1A pp1.length pp1C pp1 w35 (St.rdR (i := 2) hS38 rfl) (by first | omega | (simp only [marked_len]; omega) | (simp only [marked_len] at *; omega))) ?_)
      rintro _ w60 ⟨b65, c66, rfl, ho67, he64⟩ a61 hE62; clear hE58
      have hS63 := St.own hS38 he64 ho67; clear hS38
      refine q_step (v := .slice valsA vals.length valsC) hE62 (y_move rfl) rfl rfl rfl ?_; intro a68 hE69; clear hE62
      refine l_step hE69 rfl (l_call (f := 30) (argv := [.slice valsA vals.length valsC]) hE69 (fun _ => cf_l_toInt64S _ _) rfl rfl (d_l_toInt64S valsA vals.length valsC vals w60 (St.rdR (i := 2) hS63 rfl) (by first | omega | (simp only [marked_len]; omega) | (simp only [marked_len] at *; omega))) ?_)
      rintro _ w71 ⟨b76, c77, rfl, ho78, he75⟩ a72 hE73; clear hE69
      have hS74 := St.own hS63 he75 ho78; clear hS63
      refine l_step hE73 rfl (l_call (f := 41) (argv := [.agg #[.int .i64 pp0, .slice b65 ((pp1).length) c66], .slice b76 ((vals).length) c77]) hE73 (fun _ => cf_s_IsValuation _ _) rfl rfl (c_s_IsValuation pp0 b65 ((pp1).length) c66 pp1 b76 ((vals).length) c77 vals w71 (St.rdO (i := 1) hS74 rfl) (St.rdO (i := 0) hS74 rfl)) ?_)
      rintro _ w80 ⟨rfl, he84⟩ a81 hE82; clear hE73
      have hS83 := St.go hS74 he84; clear hS74
      refine q_step (v := .bool (F_s_IsValuation pp0 pp1 vals)) hE82 (y_assign rfl) rfl rfl rfl ?_; intro a85 hE86; clear hE82
      refine c_nil ?_
      have hE87 := hE86.sub (L' := [(1, .slice valsA vals.length valsC), (2, .pointer (some ⟨b3, 0, none⟩)), (6, .bool (F_s_IsValuation pp0 pp1 vals))]) ⟨rfl, rfl, rfl, trivial⟩; clear hE86
      refine p_tn ?_
      refine c_seq ?_
      refine c_reg ?_
      refine q_step (v := .agg #[.int .i64 pp0, .slice pp1A pp1.length pp1C]) hE87 (y_loadS Try.underlying24 rfl (by kernel_rfl) rfl (St.row (i := 2) hS83 rfl)) rfl rfl rfl ?_; intro a88 hE89; clear hE87
      refine l_step hE89 rfl (l_call (f := 16) (argv := [.agg #[.int .i64 pp0, .slice pp1A pp1.length pp1C]]) hE89 (fun _ => cf_l_toPoset _ _) rfl rfl (d_l_toPoset pp0 pp1A pp1.length pp1C pp1 w80 (St.rdR (i := 4) hS83 rfl) (by first | omega | (simp only [marked_len]; omega) | (simp only [marked_len] at *; omega))) ?_)
      rintro _ w91 ⟨b96, c97, rfl, ho98, he95⟩ a92 hE93; clear hE89
      have hS94 := St.own hS83 he95 ho98; clear hS83
      refine l_step hE93 rfl (l_alloc (z := .agg #[.int .i64 0, .slice none 0 0]) (cs := #[.int .i64 0, .slice none 0 0]) hS94 hE93 (fun _ => by kernel_rfl) rfl rfl ?_)
      intro b99 w100 hS103 he104 a101 hE102; clear hS94 hE93
      refine l_step hE102 rfl (l_storeS (k := 0) (cs' := #[.int .i64 pp0, .slice b96 ((pp1).length) c97]) hS103 hE102 (by kernel_rfl) rfl rfl (by kernel_rfl) rfl rfl ?_)
      intro w106 hS109 a107 hE108; clear hS103 hE102
      refine c_nil ?_
      have hE111 := hE108.sub (L' := [(1, .slice valsA vals.length valsC), (2, .pointer (some ⟨b3, 0, none⟩)), (6, .bool (F_s_IsValuation pp0 pp1 vals)), (7, .pointer (some ⟨b99, 0, none⟩))]) ⟨rfl, rfl, rfl, rfl, trivial⟩; clear hE108
      refine p_tn ?_
      refine c_seq ?_
      refine c_reg ?_
      refine q_step (v := .slice valsA vals.length valsC) hE111 (y_move rfl) rfl rfl rfl ?_; intro a112 hE113; clear hE111
      refine l_step hE113 rfl (l_call (f := 30) (argv := [.slice valsA vals.length valsC]) hE113 (fun _ => cf_l_toInt64S _ _) rfl rfl (d_l_toInt64S valsA vals.length valsC vals w106 (St.rdR (i := 5) hS109 rfl) (by first | omega | (simp only [marked_len]; omega) | (simp only [marked_len] at *; omega))) ?_)
      rintro _ w115 ⟨b120, c121, rfl, ho122, he119⟩ a116 hE117; clear hE113
      have hS118 := St.own hS109 he119 ho122; clear hS109
      refine q_step (v := .slice b120 ((vals).length) c121) hE117 (y_assign rfl) rfl rfl rfl ?_; intro a123 hE124; clear hE117
      refine c_nil ?_
      have hE125 := hE124.sub (L' := [(1, .slice valsA vals.length valsC), (2, .pointer (some ⟨b3, 0, none⟩)), (6, .bool (F_s_IsValuation pp0 pp1 vals)), (7, .pointer (some ⟨b99, 0, none⟩)), (8, .slice b120 ((vals).length) c121)]) ⟨rfl, rfl, rfl, rfl, rfl, trivial⟩; clear hE124
      refine p_tn ?_
      refine c_seq ?_
      refine c_reg ?_
      refine q_step (v := .agg #[.int .i64 pp0, .slice b96 ((pp1).length) c97]) hE125 (y_loadS Try.underlying27 rfl (by kernel_rfl) rfl (St.row (i := 1) hS118 rfl)) rfl rfl rfl ?_; intro a126 hE127; clear hE125
      refine q_step (v := .slice b120 ((vals).length) c121) hE127 (y_move rfl) rfl rfl rfl ?_; intro a128 hE129; clear hE127
      refine l_step hE129 rfl (l_call (f := 42) (argv := [.agg #[.int .i64 pp0, .slice b96 ((pp1).length) c97], .slice b120 ((vals).length) c121]) hE129 (fun _ => cf_IsValuation _ _) rfl rfl (c_IsValuation pp0 b96 ((pp1).length) c97 pp1 b120 ((vals).length) c121 vals w115 (St.rdO (i := 2) hS118 rfl) (St.rdO (i := 0) hS118 rfl)) ?_)
      rintro _ w131 ⟨rfl, he135⟩ a132 hE133; clear hE129
      have hS134 := St.go hS118 he135; clear hS118
      refine q_step (v := .bool (F_IsValuation pp0 pp1 vals)) hE133 (y_assign rfl) rfl rfl rfl ?_; intro a136 hE137; clear hE133
      refine c_nil ?_
      have hE138 := hE137.sub (L' := [(1, .slice valsA vals.length valsC), (2, .pointer (some ⟨b3, 0, none⟩)), (6, .bool (F_s_IsValuation pp0 pp1 vals)), (7, .pointer (some ⟨b99, 0, none⟩)), (8, .slice b120 ((vals).length) c121), (9, .bool (F_IsValuation pp0 pp1 vals))]) ⟨rfl, rfl, rfl, rfl, rfl, rfl, trivial⟩; clear hE137
      refine p_tn ?_
      refine c_seq ?_
      refine c_seq ?_
      refine c_reg ?_
      refine q_step (v := .bool (F_IsValuation pp0 pp1 vals)) hE138 (y_move rfl) rfl rfl rfl ?_; intro a139 hE140; clear hE138
      refine q_step (v := .bool (F_s_IsValuation pp0 pp1 vals)) hE140 (y_move rfl) rfl rfl rfl ?_; intro a141 hE142; clear hE140
      refine q_step (v := .bool ((F_IsValuation pp0 pp1 vals) != (F_s_IsValuation pp0 pp1 vals))) hE142 (y_neqb (by kernel_rfl) rfl rfl) rfl rfl rfl ?_; intro a143 hE144; clear hE142
      refine c_nil ?_
      have hE145 := hE144.sub (L' := [(1, .slice valsA vals.length valsC), (2, .pointer (some ⟨b3, 0, none⟩)), (7, .pointer (some ⟨b99, 0, none⟩)), (8, .slice b120 ((vals).length) c121), (32, .bool ((F_IsValuation pp0 pp1 vals) != (F_s_IsValuation pp0 pp1 vals)))]) ⟨rfl, rfl, rfl, rfl, rfl, trivial⟩; clear hE144
      refine p_tn ?_
      refine c_cond hE145 rfl (fun ht146 => ?_) (fun ht146 => ?_)
      ·
        have hE147 := hE145; rw [ht146] at hE147; clear hE145
        refine c_seq ?_
        refine c_reg ?_
        refine q_step (v := .bool false) hE147 (y_assign rfl) rfl rfl rfl ?_; intro a148 hE149; clear hE147
        refine c_nil ?_
        have hE150 := hE149.sub (L' := [(4, .bool false)]) ⟨rfl, trivial⟩; clear hE149
        refine p_tn ?_
        refine wp_ret ?_
        refine p_tr ?_
        have hF : F_l_FnExactIsValuation pp0 pp1 vals = false := by unfold F_l_FnExactIsValuation; rw [ht146, ht48, ht19]; first | done | rfl
        refine c_ret1 hE150 rfl rfl ?_
        exact ⟨(by rw [hF]; first | done | rfl), hS134.ext⟩
      ·
        have hE151 := hE145; rw [ht146] at hE151; clear hE145
        refine wp_skip ?_
        refine p_tn ?_
        refine c_seq ?_
        refine c_seq ?_
        refine d_start (fun w w' => (fun w' => w'.heap[b99]? = some (.cells #[.int .i64 pp0, .slice b96 ((pp1).length) c97] 27 (0, 0)) ∧ w'.heap[b3]? = some (.cells #[.int .i64 pp0, .slice pp1A pp1.length pp1C] 24 (0, 0)) ∧ True) w → (fun w' => w'.heap[b99]? = some (.cells #[.int .i64 pp0, .slice b96 ((pp1).length) c97] 27 (0, 0)) ∧ w'.heap[b3]? = some (.cells #[.int .i64 pp0, .slice pp1A pp1.length pp1C] 24 (0, 0)) ∧ True) w') [0, 1] 5 (by kernel_rfl) rfl ?_
        intro w152 he153; have hS154 := St.go hS134 he153; clear hS134
        refine d_take (fun _ h => h) (fun _ _ h k => h k) (v := .agg #[.int .i64 pp0, .slice b96 ((pp1).length) c97]) 0 rfl hE151 (S := fun w' => w'.heap[b99]? = some (.cells #[.int .i64 pp0, .slice b96 ((pp1).length) c97] 27 (0, 0)) ∧ w'.heap[b3]? = some (.cells #[.int .i64 pp0, .slice pp1A pp1.length pp1C] 24 (0, 0)) ∧ True) ⟨(St.row (i := 1) hS154 rfl _ (Ext.refl _)), (St.row (i := 5) hS154 rfl _ (Ext.refl _)), trivial⟩ (y_loadS Try.underlying27 rfl (by kernel_rfl) rfl (fun _ h => h.1)) rfl rfl (by kernel_rfl) (by kernel_rfl) (by kernel_rfl) (by kernel_rfl) rfl rfl (fun _ _ _ h => h) ?_; intro a155 hE156; clear hE151
        refine d_take (fun _ h => h) (fun _ _ h k => h k) (v := .agg #[.int .i64 pp0, .slice pp1A pp1.length pp1C]) 1 rfl hE156 (S := fun w' => w'.heap[b99]? = some (.cells #[.int .i64 pp0, .slice b96 ((pp1).length) c97] 27 (0, 0)) ∧ w'.heap[b3]? = some (.cells #[.int .i64 pp0, .slice pp1A pp1.length pp1C] 24 (0, 0)) ∧ True) ⟨(St.row (i := 1) hS154 rfl _ (Ext.refl _)), (St.row (i := 5) hS154 rfl _ (Ext.refl _)), trivial⟩ (y_loadS Try.underlying24 rfl (by kernel_rfl) rfl (fun _ h => h.2.1)) rfl rfl (by kernel_rfl) (by kernel_rfl) (by kernel_rfl) (by kernel_rfl) rfl rfl (fun _ _ _ h => h) ?_; intro a157 hE158; clear hE156
        refine d_only 2 (by kernel_rfl) rfl hE158 rfl (l_call (f := 16) (argv := [.agg #[.int .i64 pp0, .slice pp1A pp1.length pp1C]]) hE158 (fun _ => cf_l_toPoset _ _) rfl rfl (d_l_toPoset pp0 pp1A pp1.length pp1C pp1 w152 (St.rdR (i := 7) hS154 rfl) (by first | omega | (simp only [marked_len]; omega) | (simp only [marked_len] at *; omega))) ?_)
        rintro _ w160 ⟨b165, c166, rfl, ho167, he164⟩ a161 hE162; clear hE158
        have hS163 := St.own hS154 he164 ho167; clear hS154
        refine ⟨fun _ _ => ⟨(St.row (i := 2) hS163 rfl _ (Ext.refl _)), (St.row (i := 6) hS163 rfl _ (Ext.refl _)), trivial⟩, ?_⟩
        refine d_only 3 (by kernel_rfl) rfl hE162 rfl (l_call (f := 18) (argv := [.agg #[.int .i64 pp0, .slice b96 ((pp1).length) c97], .agg #[.int .i64 pp0, .slice b165 ((pp1).length) c166]]) hE162 (fun _ => cf_l_eqPoset _ _) rfl rfl (d_l_eqPoset pp0 b96 ((pp1).length) c97 pp1 pp0 b165 ((pp1).length) c166 pp1 w160 (St.rdO (i := 3) hS163 rfl) (St.rdO (i := 0) hS163 rfl)) ?_)
        rintro _ w169 ⟨rfl, he173⟩ a170 hE171; clear hE162
        have hS172 := St.go hS163 he173; clear hS163
        refine ⟨fun h => Bool.noConfusion (h.symm.trans (show exm _ _ _ = true by kernel_rfl)), ?_⟩
        refine d_pure (fun _ h => h) (v := .bool (!(decide ((pp0, pp1) = (pp0, pp1))))) 4 rfl hE171 (y_not rfl) rfl (by kernel_rfl) (by kernel_rfl) (by kernel_rfl) rfl rfl (fun _ _ _ h => h) ?_; intro a174 hE175; clear hE171
        refine d_done (by kernel_rfl) ?_
        have hE176 := hE175.sub (L' := [(1, .slice valsA vals.length valsC), (8, .slice b120 ((vals).length) c121), (37, .bool (!(decide ((pp0, pp1) = (pp0, pp1)))))]) ⟨rfl, rfl, rfl, trivial⟩; clear hE175
        refine p_tn ?_
        refine c_cond hE176 rfl (fun ht177 => ?_) (fun ht177 => ?_)
        ·
          have ht178 := bn_t ht177
          have hp179 := of_decide_eq_false ht178
          have hE180 := hE176; rw [ht177] at hE180; clear hE176
          refine c_seq ?_
          refine c_reg ?_
          refine q_step (v := .bool false) hE180 (y_assign rfl) rfl rfl rfl ?_; intro a181 hE182; clear hE180
          refine c_nil ?_
          have hE183 := hE182.sub (L' := [(4, .bool false)]) ⟨rfl, trivial⟩; clear hE182
          refine p_tn ?_
          refine wp_ret ?_
          refine p_tr ?_
          have hF : F_l_FnExactIsValuation pp0 pp1 vals = false := by unfold F_l_FnExactIsValuation; rw [ht177, ht146, ht48, ht19]; first | done | rfl
          refine c_ret1 hE183 rfl rfl ?_
          exact ⟨(by rw [hF]; first | done | rfl), hS172.ext⟩
        ·
          have ht184 := bn_f ht177
          have hp185 := of_decide_eq_true ht184
          have hE186 := hE176; rw [ht177] at hE186; clear hE176
          refine wp_skip ?_
          refine p_tn ?_
          refine c_seq ?_
          refine c_seq ?_
          refine c_reg ?_
          refine q_step (v := .slice b120 ((vals).length) c121) hE186 (y_move rfl) rfl rfl rfl ?_; intro a187 hE188; clear hE186
          refine q_step (v := .slice valsA vals.length valsC) hE188 (y_move rfl) rfl rfl rfl ?_; intro a189 hE190; clear hE188
          refine l_step hE190 rfl (l_call (f := 30) (argv := [.slice valsA vals.length valsC]) hE190 (fun _ => cf_l_toInt64S _ _) rfl rfl (d_l_toInt64S valsA vals.length valsC vals w169 (St.rdR (i := 7) hS172 rfl) (by first | omega | (simp only [marked_len]; omega) | (simp only [marked_len] at *; omega))) ?_)
          rintro _ w192 ⟨b197, c198, rfl, ho199, he196⟩ a193 hE194; clear hE190
          have hS195 := St.own hS172 he196 ho199; clear hS172
          refine l_step hE194 rfl (l_call (f := 32) (argv := [.slice b120 ((vals).length) c121, .slice b197 ((vals).length) c198]) hE194 (fun _ => cf_l_eqInt64S _ _) rfl rfl (d_l_eqInt64S b120 ((vals).length) c121 vals b197 ((vals).length) c198 vals w192 (St.rdO (i := 2) hS195 rfl) (St.rdO (i := 0) hS195 rfl)) ?_)
          rintro _ w201 ⟨rfl, he205⟩ a202 hE203; clear hE194
          have hS204 := St.go hS195 he205; clear hS195
          refine q_step (v := .bool (!(decide (vals = vals)))) hE203 (y_not rfl) rfl rfl rfl ?_; intro a206 hE207; clear hE203
          refine c_nil ?_
          have hE208 := hE207.sub (L' := [(42, .bool (!(decide (vals = vals))))]) ⟨rfl, trivial⟩; clear hE207
          refine p_tn ?_
          refine c_cond hE208 rfl (fun ht209 => ?_) (fun ht209 => ?_)
          ·
            have ht210 := bn_t ht209
            have hp211 := of_decide_eq_false ht210
            have hE212 := hE208; rw [ht209] at hE212; clear hE208
            refine c_seq ?_
            refine c_reg ?_
            refine q_step (v := .bool false) hE212 (y_assign rfl) rfl rfl rfl ?_; intro a213 hE214; clear hE212
            refine c_nil ?_
            have hE215 := hE214.sub (L' := [(4, .bool false)]) ⟨rfl, trivial⟩; clear hE214
            refine p_tn ?_
            refine wp_ret ?_
            refine p_tr ?_
            have hF : F_l_FnExactIsValuation pp0 pp1 vals = false := by unfold F_l_FnExactIsValuation; rw [ht209, ht177, ht146, ht48, ht19]; first | done | rfl
            refine c_ret1 hE215 rfl rfl ?_
            exact ⟨(by rw [hF]; first | done | rfl), hS204.ext⟩
          ·
            have ht216 := bn_f ht209
            have hp217 := of_decide_eq_true ht216
            have hE218 := hE208; rw [ht209] at hE218; clear hE208
            refine wp_skip ?_
            refine p_tn ?_
            refine c_seq ?_
            refine c_reg ?_
            refine q_step (v := .bool true) hE218 (y_assign rfl) rfl rfl rfl ?_; intro a219 hE220; clear hE218
            refine c_nil ?_
            have hE221 := hE220.sub (L' := [(4, .bool true)]) ⟨rfl, trivial⟩; clear hE220
            refine p_tn ?_
            refine wp_ret ?_
            have hF : F_l_FnExactIsValuation pp0 pp1 vals = true := by unfold F_l_FnExactIsValuation; rw [ht209, ht177, ht146, ht48, ht19]; first | done | rfl
            refine c_ret1 hE221 rfl rfl ?_
            exact ⟨(by rw [hF]; first | done | rfl), hS204.ext⟩

theorem FnExactIsValuation_true (pp0 : Int) (pp1 vals : List Int) : F_l_FnExactIsValuation pp0 pp1 vals = true := by
  unfold F_l_FnExactIsValuation
  rw [IsValuation_eq]
  simp

end Go.Proofs.Ythogljcjjmclcaa
