/- GLPI: models and contracts, printed by wip/gen/gen.py -/
import Derived.Test.YthogljcjjmclcaaGA
import Derived.Test.YthogljcjjmclcaaGPI
set_option linter.unusedVariables false
set_option linter.unusedSimpArgs false
namespace Go.Proofs.Ythogljcjjmclcaa
open Go.RowKit

def F_l_FnExactIsPoset (pp0 : Int) (pp1 : List Int) : Bool :=
  bif (decide ((F_l_szPoset pp0 pp1 1048576) < 0)) then true else (bif ((F_IsPoset pp0 pp1) != (F_s_IsPoset pp0 pp1)) then false else (bif (!(decide ((pp0, pp1) = (pp0, pp1)))) then false else true))
theorem cf_l_FnExactIsPoset (args : Array Value) (w : World) : (callFunc 3 args).run Try.prog w = .ok (.enter 3 args) w := by kernel_rfl
set_option maxRecDepth 100000 in
theorem c_l_FnExactIsPoset (pp0 : Int) (pp1A : Option Addr) (pp1N pp1C : Nat) (pp1 : List Int) (w : World) (pp1R : RdS w 1 pp1A pp1N pp1C pp1) :
    Calls Try.prog 3 #[.agg #[.int .i64 pp0, .slice pp1A pp1N pp1C]] w (Ret fun v w' => v = .bool (F_l_FnExactIsPoset pp0 pp1) ∧ Ext w w') := by
  obtain rfl : pp1N = pp1.length := pp1R.len1.symm
  have pp1Le := pp1R.le
  have hS := St.nil w
  have hS1 := St.rd0 hS rfl pp1R; clear hS
  refine enter (args := [.agg #[.int .i64 pp0, .slice pp1A pp1.length pp1C]]) Try.func3 rfl rfl ?_
  rw [Try.ntmps3]; intro a hE
  have hE := hE.sub (L' := [(0, .agg #[.int .i64 pp0, .slice pp1A pp1.length pp1C])]) ⟨rfl, trivial⟩
  refine c_seq ?_
  refine c_reg ?_
  refine l_step hE rfl (l_box (v := .agg #[.int .i64 pp0, .slice pp1A pp1.length pp1C]) (cs := #[.int .i64 pp0, .slice pp1A pp1.length pp1C]) hS1 hE rfl rfl rfl ?_)
  intro b2 w3 hS6 he7 a4 hE5; clear hS1 hE
  refine q_step (v := .bool false) hE5 (y_assign rfl) rfl rfl rfl ?_; intro a8 hE9; clear hE5
  refine c_nil ?_
  have hE10 := hE9.sub (L' := [(1, .pointer (some ⟨b2, 0, none⟩))]) ⟨rfl, trivial⟩; clear hE9
  refine p_tn ?_
  refine c_seq ?_
  refine c_reg ?_
  refine q_step (v := .int .i64 1048576) hE10 (y_assign rfl) rfl rfl rfl ?_; intro a11 hE12; clear hE10
  refine c_nil ?_
  have hE13 := hE12.sub (L' := [(1, .pointer (some ⟨b2, 0, none⟩)), (3, .int .i64 1048576)]) ⟨rfl, rfl, trivial⟩; clear hE12
  refine p_tn ?_
  refine c_seq ?_
  refine c_reg ?_
  refine q_step (v := .agg #[.int .i64 pp0, .slice pp1A pp1.length pp1C]) hE13 (y_loadS Try.underlying24 rfl (by kernel_rfl) rfl (St.row (i := 0) hS6 rfl)) rfl rfl rfl ?_; intro a14 hE15; clear hE13
  refine q_step (v := .int .i64 1048576) hE15 (y_move rfl) rfl rfl rfl ?_; intro a16 hE17; clear hE15
  refine l_step hE17 rfl (l_call (f := 14) (argv := [.agg #[.int .i64 pp0, .slice pp1A pp1.length pp1C], .int .i64 1048576]) hE17 (fun _ => cf_l_szPoset _ _) rfl rfl (c_l_szPoset pp0 pp1A pp1.length pp1C pp1 1048576 w3 (St.rdR (i := 1) hS6 rfl) (by first | omega | (simp only [marked_len]; omega) | (simp only [marked_len] at *; omega)) (by first | omega | (simp only [marked_len]; omega) | (simp only [marked_len] at *; omega))) ?_)
  rintro _ w19 ⟨rfl, he23⟩ a20 hE21; clear hE17
  have hS22 := St.go hS6 he23; clear hS6
  refine q_step (v := .int .i64 (F_l_szPoset pp0 pp1 1048576)) hE21 (y_assign rfl) rfl rfl rfl ?_; intro a24 hE25; clear hE21
  refine c_nil ?_
  have hE26 := hE25.sub (L' := [(1, .pointer (some ⟨b2, 0, none⟩)), (3, .int .i64 (F_l_szPoset pp0 pp1 1048576))]) ⟨rfl, rfl, trivial⟩; clear hE25
  refine p_tn ?_
  refine c_seq ?_
  refine c_seq ?_
  refine c_reg ?_
  refine q_step (v := .int .i64 (F_l_szPoset pp0 pp1 1048576)) hE26 (y_move rfl) rfl rfl rfl ?_; intro a27 hE28; clear hE26
  refine q_step (v := .bool (decide ((F_l_szPoset pp0 pp1 1048576) < 0))) hE28 (y_lss rfl rfl) rfl rfl rfl ?_; intro a29 hE30; clear hE28
  refine c_nil ?_
  have hE31 := hE30.sub (L' := [(1, .pointer (some ⟨b2, 0, none⟩)), (11, .bool (decide ((F_l_szPoset pp0 pp1 1048576) < 0)))]) ⟨rfl, rfl, trivial⟩; clear hE30
  refine p_tn ?_
  refine c_cond hE31 rfl (fun ht32 => ?_) (fun ht32 => ?_)
  ·
    have hp33 := of_decide_eq_true ht32
    have hE34 := hE31; rw [ht32] at hE34; clear hE31
    refine c_seq ?_
    refine c_reg ?_
    refine q_step (v := .bool true) hE34 (y_assign rfl) rfl rfl rfl ?_; intro a35 hE36; clear hE34
    refine c_nil ?_
    have hE37 := hE36.sub (L' := [(2, .bool true)]) ⟨rfl, trivial⟩; clear hE36
    refine p_tn ?_
    refine wp_ret ?_
    refine p_tr ?_
    have hF : F_l_FnExactIsPoset pp0 pp1 = true := by unfold F_l_FnExactIsPoset; rw [ht32]; first | done | rfl
    refine c_ret1 hE37 rfl rfl ?_
    exact ⟨(by rw [hF]; first | done | rfl), hS22.ext⟩
  ·
    have hp38 := of_decide_eq_false ht32
    have hq39 := szPoset_bound hp38
    have hE40 := hE31; rw [ht32] at hE40; clear hE31
    refine wp_skip ?_
    refine p_tn ?_
    refine c_seq ?_
    refine c_reg ?_
    refine q_step (v := .agg #[.int .i64 pp0, .slice pp1A pp1.length pp1C]) hE40 (y_loadS Try.underlying24 rfl (by kernel_rfl) rfl (St.row (i := 0) hS22 rfl)) rfl rfl rfl ?_; intro a41 hE42; clear hE40
    refine l_step hE42 rfl (l_call (f := 16) (argv := [.agg #[.int .i64 pp0, .slice pp1A pp1.length pp1C]]) hE42 (fun _ => cf_l_toPoset _ _) rfl rfl (d_l_toPoset pp0 pp1A pp1.length pp1C pp1 w19 (St.rdR (i := 1) hS22 rfl) (by first | omega | (simp only [marked_len]; omega) | (simp only [marked_len] at *; omega))) ?_)
    rintro _ w44 ⟨b49, c50, rfl, ho51, he48⟩ a45 hE46; clear hE42
    have hS47 := St.own hS22 he48 ho51; clear hS22
    refine l_step hE46 rfl (l_call (f := 15) (argv := [.agg #[.int .i64 pp0, .slice b49 ((pp1).length) c50]]) hE46 (fun _ => cf_s_IsPoset _ _) rfl rfl (c_s_IsPoset pp0 b49 ((pp1).length) c50 pp1 w44 (St.rdO (i := 0) hS47 rfl)) ?_)
    rintro _ w53 ⟨rfl, he57⟩ a54 hE55; clear hE46
    have hS56 := St.go hS47 he57; clear hS47
    refine q_step (v := .bool (F_s_IsPoset pp0 pp1)) hE55 (y_assign rfl) rfl rfl rfl ?_; intro a58 hE59; clear hE55
    refine c_nil ?_
    have hE60 := hE59.sub (L' := [(1, .pointer (some ⟨b2, 0, none⟩)), (4, .bool (F_s_IsPoset pp0 pp1))]) ⟨rfl, rfl, trivial⟩; clear hE59
    refine p_tn ?_
    refine c_seq ?_
    refine c_reg ?_
    refine q_step (v := .agg #[.int .i64 pp0, .slice pp1A pp1.length pp1C]) hE60 (y_loadS Try.underlying24 rfl (by kernel_rfl) rfl (St.row (i := 1) hS56 rfl)) rfl rfl rfl ?_; intro a61 hE62; clear hE60
    refine l_step hE62 rfl (l_call (f := 16) (argv := [.agg #[.int .i64 pp0, .slice pp1A pp1.length pp1C]]) hE62 (fun _ => cf_l_toPoset _ _) rfl rfl (d_l_toPoset pp0 pp1A pp1.length pp1C pp1 w53 (St.rdR (i := 2) hS56 rfl) (by first | omega | (simp only [marked_len]; omega) | (simp only [marked_len] at *; omega))) ?_)
    rintro _ w64 ⟨b69, c70, rfl, ho71, he68⟩ a65 hE66; clear hE62
    have hS67 := St.own hS56 he68 ho71; clear hS56
    refine l_step hE66 rfl (l_alloc (z := .agg #[.int .i64 0, .slice none 0 0]) (cs := #[.int .i64 0, .slice none 0 0]) hS67 hE66 (fun _ => by kernel_rfl) rfl rfl ?_)
    intro b72 w73 hS76 he77 a74 hE75; clear hS67 hE66
    refine l_step hE75 rfl (l_storeS (k := 0) (cs' := #[.int .i64 pp0, .slice b69 ((pp1).length) c70]) hS76 hE75 (by kernel_rfl) rfl rfl (by kernel_rfl) rfl rfl ?_)
    intro w79 hS82 a80 hE81; clear hS76 hE75
    refine c_nil ?_
    have hE84 := hE81.sub (L' := [(1, .pointer (some ⟨b2, 0, none⟩)), (4, .bool (F_s_IsPoset pp0 pp1)), (5, .pointer (some ⟨b72, 0, none⟩))]) ⟨rfl, rfl, rfl, trivial⟩; clear hE81
    refine p_tn ?_
    refine c_seq ?_
    refine c_reg ?_
    refine q_step (v := .agg #[.int .i64 pp0, .slice b69 ((pp1).length) c70]) hE84 (y_loadS Try.underlying27 rfl (by kernel_rfl) rfl (St.row (i := 0) hS82 rfl)) rfl rfl rfl ?_; intro a85 hE86; clear hE84
    refine l_step hE86 rfl (l_call (f := 17) (argv := [.agg #[.int .i64 pp0, .slice b69 ((pp1).length) c70]]) hE86 (fun _ => cf_IsPoset _ _) rfl rfl (c_IsPoset pp0 b69 ((pp1).length) c70 pp1 w79 (St.rdO (i := 1) hS82 rfl)) ?_)
    rintro _ w88 ⟨rfl, he92⟩ a89 hE90; clear hE86
    have hS91 := St.go hS82 he92; clear hS82
    refine q_step (v := .bool (F_IsPoset pp0 pp1)) hE90 (y_assign rfl) rfl rfl rfl ?_; intro a93 hE94; clear hE90
    refine c_nil ?_
    have hE95 := hE94.sub (L' := [(1, .pointer (some ⟨b2, 0, none⟩)), (4, .bool (F_s_IsPoset pp0 pp1)), (5, .pointer (some ⟨b72, 0, none⟩)), (6, .bool (F_IsPoset pp0 pp1))]) ⟨rfl, rfl, rfl, rfl, trivial⟩; clear hE94
    refine p_tn ?_
    refine c_seq ?_
    refine c_seq ?_
    refine c_reg ?_
    refine q_step (v := .bool (F_IsPoset pp0 pp1)) hE95 (y_move rfl) rfl rfl rfl ?_; intro a96 hE97; clear hE95
    refine q_step (v := .bool (F_s_IsPoset pp0 pp1)) hE97 (y_move rfl) rfl rfl rfl ?_; intro a98 hE99; clear hE97
    refine q_step (v := .bool ((F_IsPoset pp0 pp1) != (F_s_IsPoset pp0 pp1))) hE99 (y_neqb (by kernel_rfl) rfl rfl) rfl rfl rfl ?_; intro a100 hE101; clear hE99
    refine c_nil ?_
    have hE102 := hE101.sub (L' := [(1, .pointer (some ⟨b2, 0, none⟩)), (5, .pointer (some ⟨b72, 0, none⟩)), (21, .bool ((F_IsPoset pp0 pp1) != (F_s_IsPoset pp0 pp1)))]) ⟨rfl, rfl, rfl, trivial⟩; clear hE101
    refine p_tn ?_
    refine c_cond hE102 rfl (fun ht103 => ?_) (fun ht103 => ?_)
    ·
      have hE104 := hE102; rw [ht103] at hE104; clear hE102
      refine c_seq ?_
      refine c_reg ?_
      refine q_step (v := .bool false) hE104 (y_assign rfl) rfl rfl rfl ?_; intro a105 hE106; clear hE104
      refine c_nil ?_
      have hE107 := hE106.sub (L' := [(2, .bool false)]) ⟨rfl, trivial⟩; clear hE106
      refine p_tn ?_
      refine wp_ret ?_
      refine p_tr ?_
      have hF : F_l_FnExactIsPoset pp0 pp1 = false := by unfold F_l_FnExactIsPoset; rw [ht103, ht32]; first | done | rfl
      refine c_ret1 hE107 rfl rfl ?_
      exact ⟨(by rw [hF]; first | done | rfl), hS91.ext⟩
    ·
      have hE108 := hE102; rw [ht103] at hE108; clear hE102
      refine wp_skip ?_
      refine p_tn ?_
      refine c_seq ?_
      refine c_seq ?_
      refine d_start (fun w w' => (fun w' => w'.heap[b72]? = some (.cells #[.int .i64 pp0, .slice b69 ((pp1).length) c70] 27 (0, 0)) ∧ w'.heap[b2]? = some (.cells #[.int .i64 pp0, .slice pp1A pp1.length pp1C] 24 (0, 0)) ∧ True) w → (fun w' => w'.heap[b72]? = some (.cells #[.int .i64 pp0, .slice b69 ((pp1).length) c70] 27 (0, 0)) ∧ w'.heap[b2]? = some (.cells #[.int .i64 pp0, .slice pp1A pp1.length pp1C] 24 (0, 0)) ∧ True) w') [0, 1] 5 (by kernel_rfl) rfl ?_
      intro w109 he110; have hS111 := St.go hS91 he110; clear hS91
      refine d_take (fun _ h => h) (fun _ _ h k => h k) (v := .agg #[.int .i64 pp0, .slice b69 ((pp1).length) c70]) 0 rfl hE108 (S := fun w' => w'.heap[b72]? = some (.cells #[.int .i64 pp0, .slice b69 ((pp1).length) c70] 27 (0, 0)) ∧ w'.heap[b2]? = some (.cells #[.int .i64 pp0, .slice pp1A pp1.length pp1C] 24 (0, 0)) ∧ True) ⟨(St.row (i := 0) hS111 rfl _ (Ext.refl _)), (St.row (i := 3) hS111 rfl _ (Ext.refl _)), trivial⟩ (y_loadS Try.underlying27 rfl (by kernel_rfl) rfl (fun _ h => h.1)) rfl rfl (by kernel_rfl) (by kernel_rfl) (by kernel_rfl) (by kernel_rfl) rfl rfl (fun _ _ _ h => h) ?_; intro a112 hE113; clear hE108
      refine d_take (fun _ h => h) (fun _ _ h k => h k) (v := .agg #[.int .i64 pp0, .slice pp1A pp1.length pp1C]) 1 rfl hE113 (S := fun w' => w'.heap[b72]? = some (.cells #[.int .i64 pp0, .slice b69 ((pp1).length) c70] 27 (0, 0)) ∧ w'.heap[b2]? = some (.cells #[.int .i64 pp0, .slice pp1A pp1.length pp1C] 24 (0, 0)) ∧ True) ⟨(St.row (i := 0) hS111 rfl _ (Ext.refl _)), (St.row (i := 3) hS111 rfl _ (Ext.refl _)), trivial⟩ (y_loadS Try.underlying24 rfl (by kernel_rfl) rfl (fun _ h => h.2.1)) rfl rfl (by kernel_rfl) (by kernel_rfl) (by kernel_rfl) (by kernel_rfl) rfl rfl (fun _ _ _ h => h) ?_; intro a114 hE115; clear hE113
      refine d_only 2 (by kernel_rfl) rfl hE115 rfl (l_call (f := 16) (argv := [.agg #[.int .i64 pp0, .slice pp1A pp1.length pp1C]]) hE115 (fun _ => cf_l_toPoset _ _) rfl rfl (d_l_toPoset pp0 pp1A pp1.length pp1C pp1 w109 (St.rdR (i := 4) hS111 rfl) (by first | omega | (simp only [marked_len]; omega) | (simp only [marked_len] at *; omega))) ?_)
      rintro _ w117 ⟨b122, c123, rfl, ho124, he121⟩ a118 hE119; clear hE115
      have hS120 := St.own hS111 he121 ho124; clear hS111
      refine ⟨fun _ _ => ⟨(St.row (i := 1) hS120 rfl _ (Ext.refl _)), (St.row (i := 4) hS120 rfl _ (Ext.refl _)), trivial⟩, ?_⟩
      refine d_only 3 (by kernel_rfl) rfl hE119 rfl (l_call (f := 18) (argv := [.agg #[.int .i64 pp0, .slice b69 ((pp1).length) c70], .agg #[.int .i64 pp0, .slice b122 ((pp1).length) c123]]) hE119 (fun _ => cf_l_eqPoset _ _) rfl rfl (d_l_eqPoset pp0 b69 ((pp1).length) c70 pp1 pp0 b122 ((pp1).length) c123 pp1 w117 (St.rdO (i := 2) hS120 rfl) (St.rdO (i := 0) hS120 rfl)) ?_)
      rintro _ w126 ⟨rfl, he130⟩ a127 hE128; clear hE119
      have hS129 := St.go hS120 he130; clear hS120
      refine ⟨fun h => Bool.noConfusion (h.symm.trans (show exm _ _ _ = true by kernel_rfl)), ?_⟩
      refine d_pure (fun _ h => h) (v := .bool (!(decide ((pp0, pp1) = (pp0, pp1))))) 4 rfl hE128 (y_not rfl) rfl (by kernel_rfl) (by kernel_rfl) (by kernel_rfl) rfl rfl (fun _ _ _ h => h) ?_; intro a131 hE132; clear hE128
      refine d_done (by kernel_rfl) ?_
      have hE133 := hE132.sub (L' := [(26, .bool (!(decide ((pp0, pp1) = (pp0, pp1)))))]) ⟨rfl, trivial⟩; clear hE132
      refine p_tn ?_
      refine c_cond hE133 rfl (fun ht134 => ?_) (fun ht134 => ?_)
      ·
        have ht135 := bn_t ht134
        have hp136 := of_decide_eq_false ht135
        have hE137 := hE133; rw [ht134] at hE137; clear hE133
        refine c_seq ?_
        refine c_reg ?_
        refine q_step (v := .bool false) hE137 (y_assign rfl) rfl rfl rfl ?_; intro a138 hE139; clear hE137
        refine c_nil ?_
        have hE140 := hE139.sub (L' := [(2, .bool false)]) ⟨rfl, trivial⟩; clear hE139
        refine p_tn ?_
        refine wp_ret ?_
        refine p_tr ?_
        have hF : F_l_FnExactIsPoset pp0 pp1 = false := by unfold F_l_FnExactIsPoset; rw [ht134, ht103, ht32]; first | done | rfl
        refine c_ret1 hE140 rfl rfl ?_
        exact ⟨(by rw [hF]; first | done | rfl), hS129.ext⟩
      ·
        have ht141 := bn_f ht134
        have hp142 := of_decide_eq_true ht141
        have hE143 := hE133; rw [ht134] at hE143; clear hE133
        refine wp_skip ?_
        refine p_tn ?_
        refine c_seq ?_
        refine c_reg ?_
        refine q_step (v := .bool true) hE143 (y_assign rfl) rfl rfl rfl ?_; intro a144 hE145; clear hE143
        refine c_nil ?_
        have hE146 := hE145.sub (L' := [(2, .bool true)]) ⟨rfl, trivial⟩; clear hE145
        refine p_tn ?_
        refine wp_ret ?_
        have hF : F_l_FnExactIsPoset pp0 pp1 = true := by unfold F_l_FnExactIsPoset; rw [ht134, ht103, ht32]; first | done | rfl
        refine c_ret1 hE146 rfl rfl ?_
        exact ⟨(by rw [hF]; first | done | rfl), hS129.ext⟩

theorem FnExactIsPoset_true (pp0 : Int) (pp1 : List Int) : F_l_FnExactIsPoset pp0 pp1 = true := by
  unfold F_l_FnExactIsPoset
  rw [IsPoset_eq]
  simp

end Go.Proofs.Ythogljcjjmclcaa
