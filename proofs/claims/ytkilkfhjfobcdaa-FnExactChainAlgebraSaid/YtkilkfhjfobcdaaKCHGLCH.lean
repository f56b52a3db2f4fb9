/- GLCH: models and contracts, printed by wip/gen/gen.py -/
import Derived.Test.YtkilkfhjfobcdaaKCHGCHD
import Derived.Test.YtkilkfhjfobcdaaKCHGCHM
import Derived.Test.YtkilkfhjfobcdaaKCHGHL
set_option linter.unusedVariables false
set_option linter.unusedSimpArgs false
namespace Go.Proofs.Ytkilkfhjfobcdaa
open Go.RowKit
theorem ChainAlgebra_eq (np : Int) : F_ChainAlgebra np = F_s_ChainAlgebra np := by
  unfold F_ChainAlgebra F_s_ChainAlgebra
  rw [show F_inRange np 1 30 = F_l01In np 1 30 from rfl]
  by_cases h : 1 ≤ np ∧ np ≤ 30
  · rw [show F_l01In np 1 30 = true by unfold F_l01In; rw [decide_eq_true h.1, decide_eq_true h.2]; rfl, Bool.not_true, cond_false, cond_false]
    unfold F_l18Chain
    rw [chain_i h.1 h.2, chain_s h.1 h.2]
    have hm := chainL_mm h.1 h.2
    have hl : (chainL np.toNat).length = np.toNat := chainL_len _
    have hc := chk9_at (k := np.toNat) (by omega) (by omega)
    unfold chk9 at hc
    simp only [Bool.and_eq_true, decide_eq_true_eq] at hc
    obtain ⟨c0, c2, c8, cp, cl, cm⟩ := hc
    rw [hey_eq9 hm.1 hm.2 (by omega) (by rw [hl]; exact c0) (by rw [hl]; exact c2) (by rw [hl]; exact c8) cp (by rw [hl]; exact cl) (by rw [hl]; exact cm)]
  · rw [show F_l01In np 1 30 = false by
      unfold F_l01In
      rw [Bool.and_eq_false_iff]
      by_cases h1 : 1 ≤ np
      · right; exact decide_eq_false (by omega)
      · left; exact decide_eq_false h1]
    rfl
def F_l_FnExactChainAlgebra (np : Int) : Bool :=
  bif (!(F_l_eqHeyting (((F_ChainAlgebra np).1).1) (((F_ChainAlgebra np).1).2.1) (((F_ChainAlgebra np).1).2.2.1) (((F_ChainAlgebra np).1).2.2.2.1) (((F_ChainAlgebra np).1).2.2.2.2) (((F_s_ChainAlgebra np).1).1) (((F_s_ChainAlgebra np).1).2.1) (((F_s_ChainAlgebra np).1).2.2.1) (((F_s_ChainAlgebra np).1).2.2.2.1) (((F_s_ChainAlgebra np).1).2.2.2.2))) then false else (bif (!decide (((F_ChainAlgebra np).2) = ((F_s_ChainAlgebra np).2))) then false else (bif (decide ((F_l_heldHeyting (markedL (((F_ChainAlgebra np).1).1) 1) (markedL (((F_ChainAlgebra np).1).2.1) (1 + (totL (((F_ChainAlgebra np).1).1) : Int))) (markedL (((F_ChainAlgebra np).1).2.2.1) ((1 + (totL (((F_ChainAlgebra np).1).1) : Int)) + (totL (((F_ChainAlgebra np).1).2.1) : Int))) (((F_ChainAlgebra np).1).2.2.2.1) (((F_ChainAlgebra np).1).2.2.2.2) 1) < 0)) then false else (bif (!decide ((F_l_heldHeyting (markedL (((F_ChainAlgebra np).1).1) 1) (markedL (((F_ChainAlgebra np).1).2.1) (1 + (totL (((F_ChainAlgebra np).1).1) : Int))) (markedL (((F_ChainAlgebra np).1).2.2.1) ((1 + (totL (((F_ChainAlgebra np).1).1) : Int)) + (totL (((F_ChainAlgebra np).1).2.1) : Int))) (((F_ChainAlgebra np).1).2.2.2.1) (((F_ChainAlgebra np).1).2.2.2.2) 1) = (((1 + (totL (((F_ChainAlgebra np).1).1) : Int)) + (totL (((F_ChainAlgebra np).1).2.1) : Int)) + (totL (((F_ChainAlgebra np).1).2.2.1) : Int)))) then false else true)))
set_option maxRecDepth 100000 in
theorem c_l_FnExactChainAlgebra (np : Int) (w : World) :
    Calls Try.prog 12 #[.int .i64 np] w (Ret fun v w' => v = .bool (F_l_FnExactChainAlgebra np) ∧ Ext w w') := by
  have hS := St.nil w
  refine enter (args := [.int .i64 np]) Try.func12 rfl rfl ?_
  rw [Try.ntmps12]; intro a hE
  have hE := hE.sub (L' := [(0, .int .i64 np)]) ⟨rfl, trivial⟩
  refine c_seq ?_
  refine c_reg ?_
  refine q_step (v := .bool false) hE (y_assign rfl) rfl rfl rfl ?_; intro a1 hE2; clear hE
  refine c_nil ?_
  have hE3 := hE2.sub (L' := [(0, .int .i64 np)]) ⟨rfl, trivial⟩; clear hE2
  refine p_tn ?_
  refine c_seq ?_
  refine c_reg ?_
  refine q_step (v := .int .i64 np) hE3 (y_move rfl) rfl rfl rfl ?_; intro a4 hE5; clear hE3
  refine l_step hE5 rfl (l_call (f := 54) (argv := [.int .i64 np]) hE5 (fun _ => cf_s_ChainAlgebra _ _) rfl rfl (c_s_ChainAlgebra np w) ?_)
  rintro _ w7 ⟨b12, c13, h14, b15, c16, h17, b18, c19, h20, rfl, ho21⟩ a8 hE9; clear hE5
  have he11 := ho21.ext
  have hS10 := St.comp hS ho21 rfl; clear hS
  simp only [List.cons_append, List.nil_append] at hS10
  refine q_step (v := .tuple #[.agg #[.slice b12 ((((F_s_ChainAlgebra np).1).1).length) c13, .slice b15 ((((F_s_ChainAlgebra np).1).2.1).length) c16, .slice b18 ((((F_s_ChainAlgebra np).1).2.2.1).length) c19, .int .i64 (((F_s_ChainAlgebra np).1).2.2.2.1), .int .i64 (((F_s_ChainAlgebra np).1).2.2.2.2)], .int .i64 ((F_s_ChainAlgebra np).2)]) hE9 (y_move rfl) rfl rfl rfl ?_; intro a23 hE24; clear hE9
  refine q_step (v := .agg #[.slice b12 ((((F_s_ChainAlgebra np).1).1).length) c13, .slice b15 ((((F_s_ChainAlgebra np).1).2.1).length) c16, .slice b18 ((((F_s_ChainAlgebra np).1).2.2.1).length) c19, .int .i64 (((F_s_ChainAlgebra np).1).2.2.2.1), .int .i64 (((F_s_ChainAlgebra np).1).2.2.2.2)]) hE24 (y_extract rfl rfl) rfl rfl rfl ?_; intro a25 hE26; clear hE24
  refine q_step (v := .int .i64 ((F_s_ChainAlgebra np).2)) hE26 (y_extract rfl rfl) rfl rfl rfl ?_; intro a27 hE28; clear hE26
  refine l_step hE28 rfl (l_alloc (z := .agg #[.slice none 0 0, .slice none 0 0, .slice none 0 0, .int .i64 0, .int .i64 0]) (cs := #[.slice none 0 0, .slice none 0 0, .slice none 0 0, .int .i64 0, .int .i64 0]) hS10 hE28 (fun _ => by kernel_rfl) rfl rfl ?_)
  intro b29 w30 hS33 he34 a31 hE32; clear hS10 hE28
  refine l_step hE32 rfl (l_storeS (k := 0) (cs' := #[.slice b12 ((((F_s_ChainAlgebra np).1).1).length) c13, .slice b15 ((((F_s_ChainAlgebra np).1).2.1).length) c16, .slice b18 ((((F_s_ChainAlgebra np).1).2.2.1).length) c19, .int .i64 (((F_s_ChainAlgebra np).1).2.2.2.1), .int .i64 (((F_s_ChainAlgebra np).1).2.2.2.2)]) hS33 hE32 (by kernel_rfl) rfl rfl (by kernel_rfl) rfl rfl ?_)
  intro w36 hS39 a37 hE38; clear hS33 hE32
  refine q_step (v := .int .i64 ((F_s_ChainAlgebra np).2)) hE38 (y_assign rfl) rfl rfl rfl ?_; intro a41 hE42; clear hE38
  refine c_nil ?_
  have hE43 := hE42.sub (L' := [(0, .int .i64 np), (3, .pointer (some ⟨b29, 0, none⟩)), (4, .int .i64 ((F_s_ChainAlgebra np).2))]) ⟨rfl, rfl, rfl, trivial⟩; clear hE42
  refine p_tn ?_
  refine c_seq ?_
  refine c_reg ?_
  refine q_step (v := .int .i64 np) hE43 (y_move rfl) rfl rfl rfl ?_; intro a44 hE45; clear hE43
  refine l_step hE45 rfl (l_call (f := 55) (argv := [.int .i64 np]) hE45 (fun _ => cf_ChainAlgebra _ _) rfl rfl (c_ChainAlgebra np w36) ?_)
  rintro _ w47 ⟨b52, c53, h54, b55, c56, h57, b58, c59, h60, rfl, ho61⟩ a48 hE49; clear hE45
  have he51 := ho61.ext
  have hf63 := ChainAlgebra_tot np
  have hS50 := St.comp hS39 ho61 rfl; clear hS39
  simp only [List.cons_append, List.nil_append] at hS50
  refine q_step (v := .tuple #[.agg #[.slice b52 ((((F_ChainAlgebra np).1).1).length) c53, .slice b55 ((((F_ChainAlgebra np).1).2.1).length) c56, .slice b58 ((((F_ChainAlgebra np).1).2.2.1).length) c59, .int .i64 (((F_ChainAlgebra np).1).2.2.2.1), .int .i64 (((F_ChainAlgebra np).1).2.2.2.2)], .int .i64 ((F_ChainAlgebra np).2)]) hE49 (y_move rfl) rfl rfl rfl ?_; intro a64 hE65; clear hE49
  refine q_step (v := .agg #[.slice b52 ((((F_ChainAlgebra np).1).1).length) c53, .slice b55 ((((F_ChainAlgebra np).1).2.1).length) c56, .slice b58 ((((F_ChainAlgebra np).1).2.2.1).length) c59, .int .i64 (((F_ChainAlgebra np).1).2.2.2.1), .int .i64 (((F_ChainAlgebra np).1).2.2.2.2)]) hE65 (y_extract rfl rfl) rfl rfl rfl ?_; intro a66 hE67; clear hE65
  refine q_step (v := .int .i64 ((F_ChainAlgebra np).2)) hE67 (y_extract rfl rfl) rfl rfl rfl ?_; intro a68 hE69; clear hE67
  refine l_step hE69 rfl (l_alloc (z := .agg #[.slice none 0 0, .slice none 0 0, .slice none 0 0, .int .i64 0, .int .i64 0]) (cs := #[.slice none 0 0, .slice none 0 0, .slice none 0 0, .int .i64 0, .int .i64 0]) hS50 hE69 (fun _ => by kernel_rfl) rfl rfl ?_)
  intro b70 w71 hS74 he75 a72 hE73; clear hS50 hE69
  refine l_step hE73 rfl (l_storeS (k := 0) (cs' := #[.slice b52 ((((F_ChainAlgebra np).1).1).length) c53, .slice b55 ((((F_ChainAlgebra np).1).2.1).length) c56, .slice b58 ((((F_ChainAlgebra np).1).2.2.1).length) c59, .int .i64 (((F_ChainAlgebra np).1).2.2.2.1), .int .i64 (((F_ChainAlgebra np).1).2.2.2.2)]) hS74 hE73 (by kernel_rfl) rfl rfl (by kernel_rfl) rfl rfl ?_)
  intro w77 hS80 a78 hE79; clear hS74 hE73
  refine q_step (v := .int .i64 ((F_ChainAlgebra np).2)) hE79 (y_assign rfl) rfl rfl rfl ?_; intro a82 hE83; clear hE79
  refine c_nil ?_
  have hE84 := hE83.sub (L' := [(0, .int .i64 np), (3, .pointer (some ⟨b29, 0, none⟩)), (4, .int .i64 ((F_s_ChainAlgebra np).2)), (5, .pointer (some ⟨b70, 0, none⟩)), (6, .int .i64 ((F_ChainAlgebra np).2))]) ⟨rfl, rfl, rfl, rfl, rfl, trivial⟩; clear hE83
  refine p_tn ?_
  refine c_seq ?_
  refine c_seq ?_
  refine c_reg ?_
  refine q_step (v := .agg #[.slice b52 ((((F_ChainAlgebra np).1).1).length) c53, .slice b55 ((((F_ChainAlgebra np).1).2.1).length) c56, .slice b58 ((((F_ChainAlgebra np).1).2.2.1).length) c59, .int .i64 (((F_ChainAlgebra np).1).2.2.2.1), .int .i64 (((F_ChainAlgebra np).1).2.2.2.2)]) hE84 (y_loadS Try.underlying74 rfl (by kernel_rfl) rfl (St.row (i := 0) hS80 rfl)) rfl rfl rfl ?_; intro a85 hE86; clear hE84
  refine q_step (v := .agg #[.slice b12 ((((F_s_ChainAlgebra np).1).1).length) c13, .slice b15 ((((F_s_ChainAlgebra np).1).2.1).length) c16, .slice b18 ((((F_s_ChainAlgebra np).1).2.2.1).length) c19, .int .i64 (((F_s_ChainAlgebra np).1).2.2.2.1), .int .i64 (((F_s_ChainAlgebra np).1).2.2.2.2)]) hE86 (y_loadS Try.underlying74 rfl (by kernel_rfl) rfl (St.row (i := 4) hS80 rfl)) rfl rfl rfl ?_; intro a87 hE88; clear hE86
  refine l_step hE88 rfl (l_call (f := 56) (argv := [.agg #[.slice b52 ((((F_ChainAlgebra np).1).1).length) c53, .slice b55 ((((F_ChainAlgebra np).1).2.1).length) c56, .slice b58 ((((F_ChainAlgebra np).1).2.2.1).length) c59, .int .i64 (((F_ChainAlgebra np).1).2.2.2.1), .int .i64 (((F_ChainAlgebra np).1).2.2.2.2)], .agg #[.slice b12 ((((F_s_ChainAlgebra np).1).1).length) c13, .slice b15 ((((F_s_ChainAlgebra np).1).2.1).length) c16, .slice b18 ((((F_s_ChainAlgebra np).1).2.2.1).length) c19, .int .i64 (((F_s_ChainAlgebra np).1).2.2.2.1), .int .i64 (((F_s_ChainAlgebra np).1).2.2.2.2)]]) hE88 (fun _ => cf_l_eqHeyting _ _) rfl rfl (c_l_eqHeyting b52 ((((F_ChainAlgebra np).1).1).length) c53 h54 (((F_ChainAlgebra np).1).1) b55 ((((F_ChainAlgebra np).1).2.1).length) c56 h57 (((F_ChainAlgebra np).1).2.1) b58 ((((F_ChainAlgebra np).1).2.2.1).length) c59 h60 (((F_ChainAlgebra np).1).2.2.1) (((F_ChainAlgebra np).1).2.2.2.1) (((F_ChainAlgebra np).1).2.2.2.2) b12 ((((F_s_ChainAlgebra np).1).1).length) c13 h14 (((F_s_ChainAlgebra np).1).1) b15 ((((F_s_ChainAlgebra np).1).2.1).length) c16 h17 (((F_s_ChainAlgebra np).1).2.1) b18 ((((F_s_ChainAlgebra np).1).2.2.1).length) c19 h20 (((F_s_ChainAlgebra np).1).2.2.1) (((F_s_ChainAlgebra np).1).2.2.2.1) (((F_s_ChainAlgebra np).1).2.2.2.2) w77 (St.rdNo (i := 1) hS80 rfl) (St.rdNo (i := 2) hS80 rfl) (St.rdNo (i := 3) hS80 rfl) (St.rdNo (i := 5) hS80 rfl) (St.rdNo (i := 6) hS80 rfl) (St.rdNo (i := 7) hS80 rfl)) ?_)
  rintro _ w90 ⟨rfl, he94⟩ a91 hE92; clear hE88
  have hS93 := St.go hS80 he94; clear hS80
  refine q_step (v := .bool (!(F_l_eqHeyting (((F_ChainAlgebra np).1).1) (((F_ChainAlgebra np).1).2.1) (((F_ChainAlgebra np).1).2.2.1) (((F_ChainAlgebra np).1).2.2.2.1) (((F_ChainAlgebra np).1).2.2.2.2) (((F_s_ChainAlgebra np).1).1) (((F_s_ChainAlgebra np).1).2.1) (((F_s_ChainAlgebra np).1).2.2.1) (((F_s_ChainAlgebra np).1).2.2.2.1) (((F_s_ChainAlgebra np).1).2.2.2.2)))) hE92 (y_not rfl) rfl rfl rfl ?_; intro a95 hE96; clear hE92
  refine q_step (v := .bool (!(F_l_eqHeyting (((F_ChainAlgebra np).1).1) (((F_ChainAlgebra np).1).2.1) (((F_ChainAlgebra np).1).2.2.1) (((F_ChainAlgebra np).1).2.2.2.1) (((F_ChainAlgebra np).1).2.2.2.2) (((F_s_ChainAlgebra np).1).1) (((F_s_ChainAlgebra np).1).2.1) (((F_s_ChainAlgebra np).1).2.2.1) (((F_s_ChainAlgebra np).1).2.2.2.1) (((F_s_ChainAlgebra np).1).2.2.2.2)))) hE96 (y_move rfl) rfl rfl rfl ?_; intro a97 hE98; clear hE96
  rcases Bool.eq_false_or_eq_true (!(F_l_eqHeyting (((F_ChainAlgebra np).1).1) (((F_ChainAlgebra np).1).2.1) (((F_ChainAlgebra np).1).2.2.1) (((F_ChainAlgebra np).1).2.2.2.1) (((F_ChainAlgebra np).1).2.2.2.2) (((F_s_ChainAlgebra np).1).1) (((F_s_ChainAlgebra np).1).2.1) (((F_s_ChainAlgebra np).1).2.2.1) (((F_s_ChainAlgebra np).1).2.2.2.1) (((F_s_ChainAlgebra np).1).2.2.2.2))) with hb99 | hb99
  ·
   have hE100 := hE98; (try rw [hb99] at hE100); clear hE98
   have ht101 := bn_t hb99
   refine q_skip hE100 rfl rfl rfl ?_; intro a102 hE103; clear hE100
   refine q_skip hE103 rfl rfl rfl ?_; intro a104 hE105; clear hE103
   refine q_skip hE105 rfl rfl rfl ?_; intro a106 hE107; clear hE105
   refine q_step (v := .bool true) hE107 (y_pick (b := true) rfl rfl) rfl rfl rfl ?_; intro a108 hE109; clear hE107
   refine c_nil ?_
   have hE110 := hE109.sub (L' := [(0, .int .i64 np), (3, .pointer (some ⟨b29, 0, none⟩)), (4, .int .i64 ((F_s_ChainAlgebra np).2)), (5, .pointer (some ⟨b70, 0, none⟩)), (29, .bool true)]) ⟨rfl, rfl, rfl, rfl, rfl, trivial⟩; clear hE109
   refine p_tn ?_
   refine c_true hE110 rfl ?_
   refine c_seq ?_
   refine c_reg ?_
   refine q_step (v := .bool false) hE110 (y_assign rfl) rfl rfl rfl ?_; intro a111 hE112; clear hE110
   refine c_nil ?_
   have hE113 := hE112.sub (L' := [(2, .bool false)]) ⟨rfl, trivial⟩; clear hE112
   refine p_tn ?_
   refine wp_ret ?_
   refine p_tr ?_
   have hF : F_l_FnExactChainAlgebra np = false := by unfold F_l_FnExactChainAlgebra; rw [hb99]; first | done | rfl
   refine c_ret1 hE113 rfl rfl ?_
   exact ⟨(by rw [hF]; first | done | (dsimp only; done) | rfl), hS93.ext⟩
  ·
   have hE114 := hE98; (try rw [hb99] at hE114); clear hE98
   have ht115 := bn_f hb99
   refine q_step (v := .int .i64 ((F_ChainAlgebra np).2)) hE114 (y_move rfl) rfl rfl rfl ?_; intro a116 hE117; clear hE114
   refine q_step (v := .int .i64 ((F_s_ChainAlgebra np).2)) hE117 (y_move rfl) rfl rfl rfl ?_; intro a118 hE119; clear hE117
   refine q_step (v := .bool (!decide (((F_ChainAlgebra np).2) = ((F_s_ChainAlgebra np).2)))) hE119 (y_neq rfl rfl) rfl rfl rfl ?_; intro a120 hE121; clear hE119
   refine q_step (v := .bool (!decide (((F_ChainAlgebra np).2) = ((F_s_ChainAlgebra np).2)))) hE121 (y_pick (b := false) rfl rfl) rfl rfl rfl ?_; intro a122 hE123; clear hE121
   refine c_nil ?_
   have hE124 := hE123.sub (L' := [(0, .int .i64 np), (3, .pointer (some ⟨b29, 0, none⟩)), (4, .int .i64 ((F_s_ChainAlgebra np).2)), (5, .pointer (some ⟨b70, 0, none⟩)), (29, .bool (!decide (((F_ChainAlgebra np).2) = ((F_s_ChainAlgebra np).2))))]) ⟨rfl, rfl, rfl, rfl, rfl, trivial⟩; clear hE123
   refine p_tn ?_
   refine c_cond hE124 rfl (fun ht125 => ?_) (fun ht125 => ?_)
   ·
    have ht126 := bn_t ht125
    have hp127 := of_decide_eq_false ht126
    have hE128 := hE124; rw [ht125] at hE128; clear hE124
    refine c_seq ?_
    refine c_reg ?_
    refine q_step (v := .bool false) hE128 (y_assign rfl) rfl rfl rfl ?_; intro a129 hE130; clear hE128
    refine c_nil ?_
    have hE131 := hE130.sub (L' := [(2, .bool false)]) ⟨rfl, trivial⟩; clear hE130
    refine p_tn ?_
    refine wp_ret ?_
    refine p_tr ?_
    have hF : F_l_FnExactChainAlgebra np = false := by unfold F_l_FnExactChainAlgebra; rw [ht125, hb99]; first | done | rfl
    refine c_ret1 hE131 rfl rfl ?_
    exact ⟨(by rw [hF]; first | done | (dsimp only; done) | rfl), hS93.ext⟩
   ·
    have ht132 := bn_f ht125
    have hp133 := of_decide_eq_true ht132
    have hE134 := hE124; rw [ht125] at hE134; clear hE124
    refine wp_skip ?_
    refine p_tn ?_
    refine c_seq ?_
    refine c_reg ?_
    refine q_step (v := .int .i64 1) hE134 (y_assign rfl) rfl rfl rfl ?_; intro a135 hE136; clear hE134
    refine c_nil ?_
    have hE137 := hE136.sub (L' := [(0, .int .i64 np), (3, .pointer (some ⟨b29, 0, none⟩)), (4, .int .i64 ((F_s_ChainAlgebra np).2)), (5, .pointer (some ⟨b70, 0, none⟩)), (7, .int .i64 1)]) ⟨rfl, rfl, rfl, rfl, rfl, trivial⟩; clear hE136
    refine p_tn ?_
    refine c_seq ?_
    refine c_reg ?_
    refine q_step (v := .agg #[.slice b52 ((((F_ChainAlgebra np).1).1).length) c53, .slice b55 ((((F_ChainAlgebra np).1).2.1).length) c56, .slice b58 ((((F_ChainAlgebra np).1).2.2.1).length) c59, .int .i64 (((F_ChainAlgebra np).1).2.2.2.1), .int .i64 (((F_ChainAlgebra np).1).2.2.2.2)]) hE137 (y_loadS Try.underlying74 rfl (by kernel_rfl) rfl (St.row (i := 0) hS93 rfl)) rfl rfl rfl ?_; intro a138 hE139; clear hE137
    refine q_step (v := .int .i64 1) hE139 (y_move rfl) rfl rfl rfl ?_; intro a140 hE141; clear hE139
    have hS148 := (St.pick (Γ' := [.nest 22 1 (some 2) b58 c59 h60 (((F_ChainAlgebra np).1).2.2.1), .nest 22 1 (some 2) b55 c56 h57 (((F_ChainAlgebra np).1).2.1), .nest 22 1 (some 2) b52 c53 h54 (((F_ChainAlgebra np).1).1), .blk b70 #[.slice b52 ((((F_ChainAlgebra np).1).1).length) c53, .slice b55 ((((F_ChainAlgebra np).1).2.1).length) c56, .slice b58 ((((F_ChainAlgebra np).1).2.2.1).length) c59, .int .i64 (((F_ChainAlgebra np).1).2.2.2.1), .int .i64 (((F_ChainAlgebra np).1).2.2.2.2)] 74, .blk b29 #[.slice b12 ((((F_s_ChainAlgebra np).1).1).length) c13, .slice b15 ((((F_s_ChainAlgebra np).1).2.1).length) c16, .slice b18 ((((F_s_ChainAlgebra np).1).2.2.1).length) c19, .int .i64 (((F_s_ChainAlgebra np).1).2.2.2.1), .int .i64 (((F_s_ChainAlgebra np).1).2.2.2.2)] 74, .nest 22 1 (some 2) b12 c13 h14 (((F_s_ChainAlgebra np).1).1), .nest 22 1 (some 2) b15 c16 h17 (((F_s_ChainAlgebra np).1).2.1), .nest 22 1 (some 2) b18 c19 h20 (((F_s_ChainAlgebra np).1).2.2.1)]) hS93 [3, 2, 1, 0, 4, 5, 6, 7] (by decide) rfl); clear hS93
    refine l_step hE141 rfl (l_call (f := 57) (argv := [.agg #[.slice b52 ((((F_ChainAlgebra np).1).1).length) c53, .slice b55 ((((F_ChainAlgebra np).1).2.1).length) c56, .slice b58 ((((F_ChainAlgebra np).1).2.2.1).length) c59, .int .i64 (((F_ChainAlgebra np).1).2.2.2.1), .int .i64 (((F_ChainAlgebra np).1).2.2.2.2)], .int .i64 1]) hE141 (fun _ => cf_l_markHeyting _ _) rfl rfl (d_l_markHeyting b52 c53 h54 (((F_ChainAlgebra np).1).1) b55 c56 h57 (((F_ChainAlgebra np).1).2.1) b58 c59 h60 (((F_ChainAlgebra np).1).2.2.1) (((F_ChainAlgebra np).1).2.2.2.1) (((F_ChainAlgebra np).1).2.2.2.2) 1 w90 w [.blk b70 #[.slice b52 ((((F_ChainAlgebra np).1).1).length) c53, .slice b55 ((((F_ChainAlgebra np).1).2.1).length) c56, .slice b58 ((((F_ChainAlgebra np).1).2.2.1).length) c59, .int .i64 (((F_ChainAlgebra np).1).2.2.2.1), .int .i64 (((F_ChainAlgebra np).1).2.2.2.2)] 74, .blk b29 #[.slice b12 ((((F_s_ChainAlgebra np).1).1).length) c13, .slice b15 ((((F_s_ChainAlgebra np).1).2.1).length) c16, .slice b18 ((((F_s_ChainAlgebra np).1).2.2.1).length) c19, .int .i64 (((F_s_ChainAlgebra np).1).2.2.2.1), .int .i64 (((F_s_ChainAlgebra np).1).2.2.2.2)] 74, .nest 22 1 (some 2) b12 c13 h14 (((F_s_ChainAlgebra np).1).1), .nest 22 1 (some 2) b15 c16 h17 (((F_s_ChainAlgebra np).1).2.1), .nest 22 1 (some 2) b18 c19 h20 (((F_s_ChainAlgebra np).1).2.2.1)] hS148 (by omega) (by omega) (by omega) (by omega) (by omega)) ?_)
    rintro _ w143 ⟨rfl, hS146⟩ a144 hE145; clear hE141 hS148
    refine q_step (v := .int .i64 (((1 + (totL (((F_ChainAlgebra np).1).1) : Int)) + (totL (((F_ChainAlgebra np).1).2.1) : Int)) + (totL (((F_ChainAlgebra np).1).2.2.1) : Int))) hE145 (y_assign rfl) rfl rfl rfl ?_; intro a149 hE150; clear hE145
    refine c_nil ?_
    have hE151 := hE150.sub (L' := [(0, .int .i64 np), (3, .pointer (some ⟨b29, 0, none⟩)), (4, .int .i64 ((F_s_ChainAlgebra np).2)), (5, .pointer (some ⟨b70, 0, none⟩)), (7, .int .i64 (((1 + (totL (((F_ChainAlgebra np).1).1) : Int)) + (totL (((F_ChainAlgebra np).1).2.1) : Int)) + (totL (((F_ChainAlgebra np).1).2.2.1) : Int)))]) ⟨rfl, rfl, rfl, rfl, rfl, trivial⟩; clear hE150
    refine p_tn ?_
    refine c_seq ?_
    refine c_reg ?_
    refine q_step (v := .int .i64 1) hE151 (y_assign rfl) rfl rfl rfl ?_; intro a152 hE153; clear hE151
    refine c_nil ?_
    have hE154 := hE153.sub (L' := [(0, .int .i64 np), (3, .pointer (some ⟨b29, 0, none⟩)), (4, .int .i64 ((F_s_ChainAlgebra np).2)), (5, .pointer (some ⟨b70, 0, none⟩)), (7, .int .i64 (((1 + (totL (((F_ChainAlgebra np).1).1) : Int)) + (totL (((F_ChainAlgebra np).1).2.1) : Int)) + (totL (((F_ChainAlgebra np).1).2.2.1) : Int))), (8, .int .i64 1)]) ⟨rfl, rfl, rfl, rfl, rfl, rfl, trivial⟩; clear hE153
    refine p_tn ?_
    refine c_seq ?_
    refine c_reg ?_
    refine q_step (v := .agg #[.slice b52 ((((F_ChainAlgebra np).1).1).length) c53, .slice b55 ((((F_ChainAlgebra np).1).2.1).length) c56, .slice b58 ((((F_ChainAlgebra np).1).2.2.1).length) c59, .int .i64 (((F_ChainAlgebra np).1).2.2.2.1), .int .i64 (((F_ChainAlgebra np).1).2.2.2.2)]) hE154 (y_loadS Try.underlying74 rfl (by kernel_rfl) rfl (St.row (i := 3) hS146 rfl)) rfl rfl rfl ?_; intro a155 hE156; clear hE154
    refine q_step (v := .int .i64 1) hE156 (y_move rfl) rfl rfl rfl ?_; intro a157 hE158; clear hE156
    refine l_step hE158 rfl (l_call (f := 58) (argv := [.agg #[.slice b52 ((((F_ChainAlgebra np).1).1).length) c53, .slice b55 ((((F_ChainAlgebra np).1).2.1).length) c56, .slice b58 ((((F_ChainAlgebra np).1).2.2.1).length) c59, .int .i64 (((F_ChainAlgebra np).1).2.2.2.1), .int .i64 (((F_ChainAlgebra np).1).2.2.2.2)], .int .i64 1]) hE158 (fun _ => cf_l_heldHeyting _ _) rfl rfl (c_l_heldHeyting b52 ((((F_ChainAlgebra np).1).1).length) c53 h54 (markedL (((F_ChainAlgebra np).1).1) 1) b55 ((((F_ChainAlgebra np).1).2.1).length) c56 h57 (markedL (((F_ChainAlgebra np).1).2.1) (1 + (totL (((F_ChainAlgebra np).1).1) : Int))) b58 ((((F_ChainAlgebra np).1).2.2.1).length) c59 h60 (markedL (((F_ChainAlgebra np).1).2.2.1) ((1 + (totL (((F_ChainAlgebra np).1).1) : Int)) + (totL (((F_ChainAlgebra np).1).2.1) : Int))) (((F_ChainAlgebra np).1).2.2.2.1) (((F_ChainAlgebra np).1).2.2.2.2) 1 w143 (by have h := (St.rdNo (i := 2) hS146 rfl); rw [markedL_len] at h; exact h) (by have h := (St.rdNo (i := 1) hS146 rfl); rw [markedL_len] at h; exact h) (by have h := (St.rdNo (i := 0) hS146 rfl); rw [markedL_len] at h; exact h) (by omega) (by omega) (by rw [markedL_tot]; omega) (by rw [markedL_tot]; omega) (by rw [markedL_tot]; omega)) ?_)
    rintro _ w160 ⟨rfl, he164⟩ a161 hE162; clear hE158
    have hS163 := St.go hS146 he164; clear hS146
    refine q_step (v := .int .i64 (F_l_heldHeyting (markedL (((F_ChainAlgebra np).1).1) 1) (markedL (((F_ChainAlgebra np).1).2.1) (1 + (totL (((F_ChainAlgebra np).1).1) : Int))) (markedL (((F_ChainAlgebra np).1).2.2.1) ((1 + (totL (((F_ChainAlgebra np).1).1) : Int)) + (totL (((F_ChainAlgebra np).1).2.1) : Int))) (((F_ChainAlgebra np).1).2.2.2.1) (((F_ChainAlgebra np).1).2.2.2.2) 1)) hE162 (y_assign rfl) rfl rfl rfl ?_; intro a165 hE166; clear hE162
    refine c_nil ?_
    have hE167 := hE166.sub (L' := [(0, .int .i64 np), (3, .pointer (some ⟨b29, 0, none⟩)), (4, .int .i64 ((F_s_ChainAlgebra np).2)), (5, .pointer (some ⟨b70, 0, none⟩)), (7, .int .i64 (((1 + (totL (((F_ChainAlgebra np).1).1) : Int)) + (totL (((F_ChainAlgebra np).1).2.1) : Int)) + (totL (((F_ChainAlgebra np).1).2.2.1) : Int))), (8, .int .i64 (F_l_heldHeyting (markedL (((F_ChainAlgebra np).1).1) 1) (markedL (((F_ChainAlgebra np).1).2.1) (1 + (totL (((F_ChainAlgebra np).1).1) : Int))) (markedL (((F_ChainAlgebra np).1).2.2.1) ((1 + (totL (((F_ChainAlgebra np).1).1) : Int)) + (totL (((F_ChainAlgebra np).1).2.1) : Int))) (((F_ChainAlgebra np).1).2.2.2.1) (((F_ChainAlgebra np).1).2.2.2.2) 1))]) ⟨rfl, rfl, rfl, rfl, rfl, rfl, trivial⟩; clear hE166
    refine p_tn ?_
    refine c_seq ?_
    refine c_seq ?_
    refine c_reg ?_
    refine q_step (v := .int .i64 (F_l_heldHeyting (markedL (((F_ChainAlgebra np).1).1) 1) (markedL (((F_ChainAlgebra np).1).2.1) (1 + (totL (((F_ChainAlgebra np).1).1) : Int))) (markedL (((F_ChainAlgebra np).1).2.2.1) ((1 + (totL (((F_ChainAlgebra np).1).1) : Int)) + (totL (((F_ChainAlgebra np).1).2.1) : Int))) (((F_ChainAlgebra np).1).2.2.2.1) (((F_ChainAlgebra np).1).2.2.2.2) 1)) hE167 (y_move rfl) rfl rfl rfl ?_; intro a168 hE169; clear hE167
    refine q_step (v := .bool (decide ((F_l_heldHeyting (markedL (((F_ChainAlgebra np).1).1) 1) (markedL (((F_ChainAlgebra np).1).2.1) (1 + (totL (((F_ChainAlgebra np).1).1) : Int))) (markedL (((F_ChainAlgebra np).1).2.2.1) ((1 + (totL (((F_ChainAlgebra np).1).1) : Int)) + (totL (((F_ChainAlgebra np).1).2.1) : Int))) (((F_ChainAlgebra np).1).2.2.2.1) (((F_ChainAlgebra np).1).2.2.2.2) 1) < 0))) hE169 (y_lss rfl rfl) rfl rfl rfl ?_; intro a170 hE171; clear hE169
    refine c_nil ?_
    have hE172 := hE171.sub (L' := [(0, .int .i64 np), (3, .pointer (some ⟨b29, 0, none⟩)), (4, .int .i64 ((F_s_ChainAlgebra np).2)), (5, .pointer (some ⟨b70, 0, none⟩)), (7, .int .i64 (((1 + (totL (((F_ChainAlgebra np).1).1) : Int)) + (totL (((F_ChainAlgebra np).1).2.1) : Int)) + (totL (((F_ChainAlgebra np).1).2.2.1) : Int))), (8, .int .i64 (F_l_heldHeyting (markedL (((F_ChainAlgebra np).1).1) 1) (markedL (((F_ChainAlgebra np).1).2.1) (1 + (totL (((F_ChainAlgebra np).1).1) : Int))) (markedL (((F_ChainAlgebra np).1).2.2.1) ((1 + (totL (((F_ChainAlgebra np).1).1) : Int)) + (totL (((F_ChainAlgebra np).1).2.1) : Int))) (((F_ChainAlgebra np).1).2.2.2.1) (((F_ChainAlgebra np).1).2.2.2.2) 1)), (37, .bool (decide ((F_l_heldHeyting (markedL (((F_ChainAlgebra np).1).1) 1) (markedL (((F_ChainAlgebra np).1).2.1) (1 + (totL (((F_ChainAlgebra np).1).1) : Int))) (markedL (((F_ChainAlgebra np).1).2.2.1) ((1 + (totL (((F_ChainAlgebra np).1).1) : Int)) + (totL (((F_ChainAlgebra np).1).2.1) : Int))) (((F_ChainAlgebra np).1).2.2.2.1) (((F_ChainAlgebra np).1).2.2.2.2) 1) < 0)))]) ⟨rfl, rfl, rfl, rfl, rfl, rfl, rfl, trivial⟩; clear hE171
    refine p_tn ?_
    refine c_cond hE172 rfl (fun ht173 => ?_) (fun ht173 => ?_)
    ·
     have hp174 := of_decide_eq_true ht173
     have hE175 := hE172; rw [ht173] at hE175; clear hE172
     refine c_seq ?_
     refine c_reg ?_
     refine q_step (v := .bool false) hE175 (y_assign rfl) rfl rfl rfl ?_; intro a176 hE177; clear hE175
     refine c_nil ?_
     have hE178 := hE177.sub (L' := [(2, .bool false)]) ⟨rfl, trivial⟩; clear hE177
     refine p_tn ?_
     refine wp_ret ?_
     refine p_tr ?_
     have hF : F_l_FnExactChainAlgebra np = false := by unfold F_l_FnExactChainAlgebra; rw [ht173, ht125, hb99]; first | done | rfl
     refine c_ret1 hE178 rfl rfl ?_
     exact ⟨(by rw [hF]; first | done | (dsimp only; done) | rfl), hS163.ext⟩
    ·
     have hp179 := of_decide_eq_false ht173
     have hE180 := hE172; rw [ht173] at hE180; clear hE172
     refine wp_skip ?_
     refine p_tn ?_
     refine c_seq ?_
     refine c_seq ?_
     refine c_reg ?_
     refine q_step (v := .int .i64 (F_l_heldHeyting (markedL (((F_ChainAlgebra np).1).1) 1) (markedL (((F_ChainAlgebra np).1).2.1) (1 + (totL (((F_ChainAlgebra np).1).1) : Int))) (markedL (((F_ChainAlgebra np).1).2.2.1) ((1 + (totL (((F_ChainAlgebra np).1).1) : Int)) + (totL (((F_ChainAlgebra np).1).2.1) : Int))) (((F_ChainAlgebra np).1).2.2.2.1) (((F_ChainAlgebra np).1).2.2.2.2) 1)) hE180 (y_move rfl) rfl rfl rfl ?_; intro a181 hE182; clear hE180
     refine q_step (v := .int .i64 (((1 + (totL (((F_ChainAlgebra np).1).1) : Int)) + (totL (((F_ChainAlgebra np).1).2.1) : Int)) + (totL (((F_ChainAlgebra np).1).2.2.1) : Int))) hE182 (y_move rfl) rfl rfl rfl ?_; intro a183 hE184; clear hE182
     refine q_step (v := .bool (!decide ((F_l_heldHeyting (markedL (((F_ChainAlgebra np).1).1) 1) (markedL (((F_ChainAlgebra np).1).2.1) (1 + (totL (((F_ChainAlgebra np).1).1) : Int))) (markedL (((F_ChainAlgebra np).1).2.2.1) ((1 + (totL (((F_ChainAlgebra np).1).1) : Int)) + (totL (((F_ChainAlgebra np).1).2.1) : Int))) (((F_ChainAlgebra np).1).2.2.2.1) (((F_ChainAlgebra np).1).2.2.2.2) 1) = (((1 + (totL (((F_ChainAlgebra np).1).1) : Int)) + (totL (((F_ChainAlgebra np).1).2.1) : Int)) + (totL (((F_ChainAlgebra np).1).2.2.1) : Int))))) hE184 (y_neq rfl rfl) rfl rfl rfl ?_; intro a185 hE186; clear hE184
     refine c_nil ?_
     have hE187 := hE186.sub (L' := [(0, .int .i64 np), (3, .pointer (some ⟨b29, 0, none⟩)), (4, .int .i64 ((F_s_ChainAlgebra np).2)), (5, .pointer (some ⟨b70, 0, none⟩)), (7, .int .i64 (((1 + (totL (((F_ChainAlgebra np).1).1) : Int)) + (totL (((F_ChainAlgebra np).1).2.1) : Int)) + (totL (((F_ChainAlgebra np).1).2.2.1) : Int))), (40, .bool (!decide ((F_l_heldHeyting (markedL (((F_ChainAlgebra np).1).1) 1) (markedL (((F_ChainAlgebra np).1).2.1) (1 + (totL (((F_ChainAlgebra np).1).1) : Int))) (markedL (((F_ChainAlgebra np).1).2.2.1) ((1 + (totL (((F_ChainAlgebra np).1).1) : Int)) + (totL (((F_ChainAlgebra np).1).2.1) : Int))) (((F_ChainAlgebra np).1).2.2.2.1) (((F_ChainAlgebra np).1).2.2.2.2) 1) = (((1 + (totL (((F_ChainAlgebra np).1).1) : Int)) + (totL (((F_ChainAlgebra np).1).2.1) : Int)) + (totL (((F_ChainAlgebra np).1).2.2.1) : Int)))))]) ⟨rfl, rfl, rfl, rfl, rfl, rfl, trivial⟩; clear hE186
     refine p_tn ?_
     refine c_cond hE187 rfl (fun ht188 => ?_) (fun ht188 => ?_)
     ·
      have ht189 := bn_t ht188
      have hp190 := of_decide_eq_false ht189
      have hE191 := hE187; rw [ht188] at hE191; clear hE187
      refine c_seq ?_
      refine c_reg ?_
      refine q_step (v := .bool false) hE191 (y_assign rfl) rfl rfl rfl ?_; intro a192 hE193; clear hE191
      refine c_nil ?_
      have hE194 := hE193.sub (L' := [(2, .bool false)]) ⟨rfl, trivial⟩; clear hE193
      refine p_tn ?_
      refine wp_ret ?_
      refine p_tr ?_
      have hF : F_l_FnExactChainAlgebra np = false := by unfold F_l_FnExactChainAlgebra; rw [ht188, ht173, ht125, hb99]; first | done | rfl
      refine c_ret1 hE194 rfl rfl ?_
      exact ⟨(by rw [hF]; first | done | (dsimp only; done) | rfl), hS163.ext⟩
     ·
      have ht195 := bn_f ht188
      have hp196 := of_decide_eq_true ht195
      have hE197 := hE187; rw [ht188] at hE197; clear hE187
      refine wp_skip ?_
      refine p_tn ?_
      refine c_seq ?_
      refine c_reg ?_
      refine q_step (v := .int .i64 np) hE197 (y_move rfl) rfl rfl rfl ?_; intro a198 hE199; clear hE197
      refine l_step hE199 rfl (l_call (f := 55) (argv := [.int .i64 np]) hE199 (fun _ => cf_ChainAlgebra _ _) rfl rfl (c_ChainAlgebra np w160) ?_)
      rintro _ w201 ⟨b206, c207, h208, b209, c210, h211, b212, c213, h214, rfl, ho215⟩ a202 hE203; clear hE199
      have he205 := ho215.ext
      have hf217 := ChainAlgebra_tot np
      have hS204 := St.comp hS163 ho215 rfl; clear hS163
      simp only [List.cons_append, List.nil_append] at hS204
      refine q_step (v := .tuple #[.agg #[.slice b206 ((((F_ChainAlgebra np).1).1).length) c207, .slice b209 ((((F_ChainAlgebra np).1).2.1).length) c210, .slice b212 ((((F_ChainAlgebra np).1).2.2.1).length) c213, .int .i64 (((F_ChainAlgebra np).1).2.2.2.1), .int .i64 (((F_ChainAlgebra np).1).2.2.2.2)], .int .i64 ((F_ChainAlgebra np).2)]) hE203 (y_move rfl) rfl rfl rfl ?_; intro a218 hE219; clear hE203
      refine q_step (v := .agg #[.slice b206 ((((F_ChainAlgebra np).1).1).length) c207, .slice b209 ((((F_ChainAlgebra np).1).2.1).length) c210, .slice b212 ((((F_ChainAlgebra np).1).2.2.1).length) c213, .int .i64 (((F_ChainAlgebra np).1).2.2.2.1), .int .i64 (((F_ChainAlgebra np).1).2.2.2.2)]) hE219 (y_extract rfl rfl) rfl rfl rfl ?_; intro a220 hE221; clear hE219
      refine q_step (v := .int .i64 ((F_ChainAlgebra np).2)) hE221 (y_extract rfl rfl) rfl rfl rfl ?_; intro a222 hE223; clear hE221
      refine l_step hE223 rfl (l_alloc (z := .agg #[.slice none 0 0, .slice none 0 0, .slice none 0 0, .int .i64 0, .int .i64 0]) (cs := #[.slice none 0 0, .slice none 0 0, .slice none 0 0, .int .i64 0, .int .i64 0]) hS204 hE223 (fun _ => by kernel_rfl) rfl rfl ?_)
      intro b224 w225 hS228 he229 a226 hE227; clear hS204 hE223
      refine l_step hE227 rfl (l_storeS (k := 0) (cs' := #[.slice b206 ((((F_ChainAlgebra np).1).1).length) c207, .slice b209 ((((F_ChainAlgebra np).1).2.1).length) c210, .slice b212 ((((F_ChainAlgebra np).1).2.2.1).length) c213, .int .i64 (((F_ChainAlgebra np).1).2.2.2.1), .int .i64 (((F_ChainAlgebra np).1).2.2.2.2)]) hS228 hE227 (by kernel_rfl) rfl rfl (by kernel_rfl) rfl rfl ?_)
      intro w231 hS234 a232 hE233; clear hS228 hE227
      refine q_step (v := .int .i64 ((F_ChainAlgebra np).2)) hE233 (y_assign rfl) rfl rfl rfl ?_; intro a236 hE237; clear hE233
      refine c_nil ?_
      have hE238 := hE237.sub (L' := [(3, .pointer (some ⟨b29, 0, none⟩)), (4, .int .i64 ((F_s_ChainAlgebra np).2)), (5, .pointer (some ⟨b70, 0, none⟩)), (7, .int .i64 (((1 + (totL (((F_ChainAlgebra np).1).1) : Int)) + (totL (((F_ChainAlgebra np).1).2.1) : Int)) + (totL (((F_ChainAlgebra np).1).2.2.1) : Int))), (9, .pointer (some ⟨b224, 0, none⟩)), (10, .int .i64 ((F_ChainAlgebra np).2))]) ⟨rfl, rfl, rfl, rfl, rfl, rfl, trivial⟩; clear hE237
      refine p_tn ?_
      refine c_seq ?_
      refine c_seq ?_
      refine c_reg ?_
      refine q_step (v := .agg #[.slice b206 ((((F_ChainAlgebra np).1).1).length) c207, .slice b209 ((((F_ChainAlgebra np).1).2.1).length) c210, .slice b212 ((((F_ChainAlgebra np).1).2.2.1).length) c213, .int .i64 (((F_ChainAlgebra np).1).2.2.2.1), .int .i64 (((F_ChainAlgebra np).1).2.2.2.2)]) hE238 (y_loadS Try.underlying74 rfl (by kernel_rfl) rfl (St.row (i := 0) hS234 rfl)) rfl rfl rfl ?_; intro a239 hE240; clear hE238
      refine q_step (v := .agg #[.slice b12 ((((F_s_ChainAlgebra np).1).1).length) c13, .slice b15 ((((F_s_ChainAlgebra np).1).2.1).length) c16, .slice b18 ((((F_s_ChainAlgebra np).1).2.2.1).length) c19, .int .i64 (((F_s_ChainAlgebra np).1).2.2.2.1), .int .i64 (((F_s_ChainAlgebra np).1).2.2.2.2)]) hE240 (y_loadS Try.underlying74 rfl (by kernel_rfl) rfl (St.row (i := 8) hS234 rfl)) rfl rfl rfl ?_; intro a241 hE242; clear hE240
      refine l_step hE242 rfl (l_call (f := 56) (argv := [.agg #[.slice b206 ((((F_ChainAlgebra np).1).1).length) c207, .slice b209 ((((F_ChainAlgebra np).1).2.1).length) c210, .slice b212 ((((F_ChainAlgebra np).1).2.2.1).length) c213, .int .i64 (((F_ChainAlgebra np).1).2.2.2.1), .int .i64 (((F_ChainAlgebra np).1).2.2.2.2)], .agg #[.slice b12 ((((F_s_ChainAlgebra np).1).1).length) c13, .slice b15 ((((F_s_ChainAlgebra np).1).2.1).length) c16, .slice b18 ((((F_s_ChainAlgebra np).1).2.2.1).length) c19, .int .i64 (((F_s_ChainAlgebra np).1).2.2.2.1), .int .i64 (((F_s_ChainAlgebra np).1).2.2.2.2)]]) hE242 (fun _ => cf_l_eqHeyting _ _) rfl rfl (c_l_eqHeyting b206 ((((F_ChainAlgebra np).1).1).length) c207 h208 (((F_ChainAlgebra np).1).1) b209 ((((F_ChainAlgebra np).1).2.1).length) c210 h211 (((F_ChainAlgebra np).1).2.1) b212 ((((F_ChainAlgebra np).1).2.2.1).length) c213 h214 (((F_ChainAlgebra np).1).2.2.1) (((F_ChainAlgebra np).1).2.2.2.1) (((F_ChainAlgebra np).1).2.2.2.2) b12 ((((F_s_ChainAlgebra np).1).1).length) c13 h14 (((F_s_ChainAlgebra np).1).1) b15 ((((F_s_ChainAlgebra np).1).2.1).length) c16 h17 (((F_s_ChainAlgebra np).1).2.1) b18 ((((F_s_ChainAlgebra np).1).2.2.1).length) c19 h20 (((F_s_ChainAlgebra np).1).2.2.1) (((F_s_ChainAlgebra np).1).2.2.2.1) (((F_s_ChainAlgebra np).1).2.2.2.2) w231 (St.rdNo (i := 1) hS234 rfl) (St.rdNo (i := 2) hS234 rfl) (St.rdNo (i := 3) hS234 rfl) (St.rdNo (i := 9) hS234 rfl) (St.rdNo (i := 10) hS234 rfl) (St.rdNo (i := 11) hS234 rfl)) ?_)
      rintro _ w244 ⟨rfl, he248⟩ a245 hE246; clear hE242
      have hS247 := St.go hS234 he248; clear hS234
      refine q_step (v := .bool (!(F_l_eqHeyting (((F_ChainAlgebra np).1).1) (((F_ChainAlgebra np).1).2.1) (((F_ChainAlgebra np).1).2.2.1) (((F_ChainAlgebra np).1).2.2.2.1) (((F_ChainAlgebra np).1).2.2.2.2) (((F_s_ChainAlgebra np).1).1) (((F_s_ChainAlgebra np).1).2.1) (((F_s_ChainAlgebra np).1).2.2.1) (((F_s_ChainAlgebra np).1).2.2.2.1) (((F_s_ChainAlgebra np).1).2.2.2.2)))) hE246 (y_not rfl) rfl rfl rfl ?_; intro a249 hE250; clear hE246
      refine q_step (v := .bool (!(F_l_eqHeyting (((F_ChainAlgebra np).1).1) (((F_ChainAlgebra np).1).2.1) (((F_ChainAlgebra np).1).2.2.1) (((F_ChainAlgebra np).1).2.2.2.1) (((F_ChainAlgebra np).1).2.2.2.2) (((F_s_ChainAlgebra np).1).1) (((F_s_ChainAlgebra np).1).2.1) (((F_s_ChainAlgebra np).1).2.2.1) (((F_s_ChainAlgebra np).1).2.2.2.1) (((F_s_ChainAlgebra np).1).2.2.2.2)))) hE250 (y_move rfl) rfl rfl rfl ?_; intro a251 hE252; clear hE250
      have hE253 := hE252; rw [hb99] at hE253; clear hE252
      refine q_step (v := .int .i64 ((F_ChainAlgebra np).2)) hE253 (y_move rfl) rfl rfl rfl ?_; intro a254 hE255; clear hE253
      refine q_step (v := .int .i64 ((F_s_ChainAlgebra np).2)) hE255 (y_move rfl) rfl rfl rfl ?_; intro a256 hE257; clear hE255
      refine q_step (v := .bool (!decide (((F_ChainAlgebra np).2) = ((F_s_ChainAlgebra np).2)))) hE257 (y_neq rfl rfl) rfl rfl rfl ?_; intro a258 hE259; clear hE257
      refine q_step (v := .bool (!decide (((F_ChainAlgebra np).2) = ((F_s_ChainAlgebra np).2)))) hE259 (y_pick (b := false) rfl rfl) rfl rfl rfl ?_; intro a260 hE261; clear hE259
      refine c_nil ?_
      have hE262 := hE261.sub (L' := [(5, .pointer (some ⟨b70, 0, none⟩)), (7, .int .i64 (((1 + (totL (((F_ChainAlgebra np).1).1) : Int)) + (totL (((F_ChainAlgebra np).1).2.1) : Int)) + (totL (((F_ChainAlgebra np).1).2.2.1) : Int))), (54, .bool (!decide (((F_ChainAlgebra np).2) = ((F_s_ChainAlgebra np).2))))]) ⟨rfl, rfl, rfl, trivial⟩; clear hE261
      refine p_tn ?_
      have hE263 := hE262; rw [ht125] at hE263; clear hE262
      refine c_false hE263 rfl ?_
      refine wp_skip ?_
      refine p_tn ?_
      refine c_seq ?_
      refine c_reg ?_
      refine q_step (v := .int .i64 1) hE263 (y_assign rfl) rfl rfl rfl ?_; intro a264 hE265; clear hE263
      refine c_nil ?_
      have hE266 := hE265.sub (L' := [(5, .pointer (some ⟨b70, 0, none⟩)), (7, .int .i64 (((1 + (totL (((F_ChainAlgebra np).1).1) : Int)) + (totL (((F_ChainAlgebra np).1).2.1) : Int)) + (totL (((F_ChainAlgebra np).1).2.2.1) : Int))), (8, .int .i64 1)]) ⟨rfl, rfl, rfl, trivial⟩; clear hE265
      refine p_tn ?_
      refine c_seq ?_
      refine c_reg ?_
      refine q_step (v := .agg #[.slice b52 ((((F_ChainAlgebra np).1).1).length) c53, .slice b55 ((((F_ChainAlgebra np).1).2.1).length) c56, .slice b58 ((((F_ChainAlgebra np).1).2.2.1).length) c59, .int .i64 (((F_ChainAlgebra np).1).2.2.2.1), .int .i64 (((F_ChainAlgebra np).1).2.2.2.2)]) hE266 (y_loadS Try.underlying74 rfl (by kernel_rfl) rfl (St.row (i := 7) hS247 rfl)) rfl rfl rfl ?_; intro a267 hE268; clear hE266
      refine q_step (v := .int .i64 1) hE268 (y_move rfl) rfl rfl rfl ?_; intro a269 hE270; clear hE268
      refine l_step hE270 rfl (l_call (f := 58) (argv := [.agg #[.slice b52 ((((F_ChainAlgebra np).1).1).length) c53, .slice b55 ((((F_ChainAlgebra np).1).2.1).length) c56, .slice b58 ((((F_ChainAlgebra np).1).2.2.1).length) c59, .int .i64 (((F_ChainAlgebra np).1).2.2.2.1), .int .i64 (((F_ChainAlgebra np).1).2.2.2.2)], .int .i64 1]) hE270 (fun _ => cf_l_heldHeyting _ _) rfl rfl (c_l_heldHeyting b52 ((((F_ChainAlgebra np).1).1).length) c53 h54 (markedL (((F_ChainAlgebra np).1).1) 1) b55 ((((F_ChainAlgebra np).1).2.1).length) c56 h57 (markedL (((F_ChainAlgebra np).1).2.1) (1 + (totL (((F_ChainAlgebra np).1).1) : Int))) b58 ((((F_ChainAlgebra np).1).2.2.1).length) c59 h60 (markedL (((F_ChainAlgebra np).1).2.2.1) ((1 + (totL (((F_ChainAlgebra np).1).1) : Int)) + (totL (((F_ChainAlgebra np).1).2.1) : Int))) (((F_ChainAlgebra np).1).2.2.2.1) (((F_ChainAlgebra np).1).2.2.2.2) 1 w244 (by have h := (St.rdNo (i := 6) hS247 rfl); rw [markedL_len] at h; exact h) (by have h := (St.rdNo (i := 5) hS247 rfl); rw [markedL_len] at h; exact h) (by have h := (St.rdNo (i := 4) hS247 rfl); rw [markedL_len] at h; exact h) (by omega) (by omega) (by rw [markedL_tot]; omega) (by rw [markedL_tot]; omega) (by rw [markedL_tot]; omega)) ?_)
      rintro _ w272 ⟨rfl, he276⟩ a273 hE274; clear hE270
      have hS275 := St.go hS247 he276; clear hS247
      refine q_step (v := .int .i64 (F_l_heldHeyting (markedL (((F_ChainAlgebra np).1).1) 1) (markedL (((F_ChainAlgebra np).1).2.1) (1 + (totL (((F_ChainAlgebra np).1).1) : Int))) (markedL (((F_ChainAlgebra np).1).2.2.1) ((1 + (totL (((F_ChainAlgebra np).1).1) : Int)) + (totL (((F_ChainAlgebra np).1).2.1) : Int))) (((F_ChainAlgebra np).1).2.2.2.1) (((F_ChainAlgebra np).1).2.2.2.2) 1)) hE274 (y_assign rfl) rfl rfl rfl ?_; intro a277 hE278; clear hE274
      refine c_nil ?_
      have hE279 := hE278.sub (L' := [(7, .int .i64 (((1 + (totL (((F_ChainAlgebra np).1).1) : Int)) + (totL (((F_ChainAlgebra np).1).2.1) : Int)) + (totL (((F_ChainAlgebra np).1).2.2.1) : Int))), (8, .int .i64 (F_l_heldHeyting (markedL (((F_ChainAlgebra np).1).1) 1) (markedL (((F_ChainAlgebra np).1).2.1) (1 + (totL (((F_ChainAlgebra np).1).1) : Int))) (markedL (((F_ChainAlgebra np).1).2.2.1) ((1 + (totL (((F_ChainAlgebra np).1).1) : Int)) + (totL (((F_ChainAlgebra np).1).2.1) : Int))) (((F_ChainAlgebra np).1).2.2.2.1) (((F_ChainAlgebra np).1).2.2.2.2) 1))]) ⟨rfl, rfl, trivial⟩; clear hE278
      refine p_tn ?_
      refine c_seq ?_
      refine c_seq ?_
      refine c_reg ?_
      refine q_step (v := .int .i64 (F_l_heldHeyting (markedL (((F_ChainAlgebra np).1).1) 1) (markedL (((F_ChainAlgebra np).1).2.1) (1 + (totL (((F_ChainAlgebra np).1).1) : Int))) (markedL (((F_ChainAlgebra np).1).2.2.1) ((1 + (totL (((F_ChainAlgebra np).1).1) : Int)) + (totL (((F_ChainAlgebra np).1).2.1) : Int))) (((F_ChainAlgebra np).1).2.2.2.1) (((F_ChainAlgebra np).1).2.2.2.2) 1)) hE279 (y_move rfl) rfl rfl rfl ?_; intro a280 hE281; clear hE279
      refine q_step (v := .bool (decide ((F_l_heldHeyting (markedL (((F_ChainAlgebra np).1).1) 1) (markedL (((F_ChainAlgebra np).1).2.1) (1 + (totL (((F_ChainAlgebra np).1).1) : Int))) (markedL (((F_ChainAlgebra np).1).2.2.1) ((1 + (totL (((F_ChainAlgebra np).1).1) : Int)) + (totL (((F_ChainAlgebra np).1).2.1) : Int))) (((F_ChainAlgebra np).1).2.2.2.1) (((F_ChainAlgebra np).1).2.2.2.2) 1) < 0))) hE281 (y_lss rfl rfl) rfl rfl rfl ?_; intro a282 hE283; clear hE281
      refine c_nil ?_
      have hE284 := hE283.sub (L' := [(7, .int .i64 (((1 + (totL (((F_ChainAlgebra np).1).1) : Int)) + (totL (((F_ChainAlgebra np).1).2.1) : Int)) + (totL (((F_ChainAlgebra np).1).2.2.1) : Int))), (8, .int .i64 (F_l_heldHeyting (markedL (((F_ChainAlgebra np).1).1) 1) (markedL (((F_ChainAlgebra np).1).2.1) (1 + (totL (((F_ChainAlgebra np).1).1) : Int))) (markedL (((F_ChainAlgebra np).1).2.2.1) ((1 + (totL (((F_ChainAlgebra np).1).1) : Int)) + (totL (((F_ChainAlgebra np).1).2.1) : Int))) (((F_ChainAlgebra np).1).2.2.2.1) (((F_ChainAlgebra np).1).2.2.2.2) 1)), (59, .bool (decide ((F_l_heldHeyting (markedL (((F_ChainAlgebra np).1).1) 1) (markedL (((F_ChainAlgebra np).1).2.1) (1 + (totL (((F_ChainAlgebra np).1).1) : Int))) (markedL (((F_ChainAlgebra np).1).2.2.1) ((1 + (totL (((F_ChainAlgebra np).1).1) : Int)) + (totL (((F_ChainAlgebra np).1).2.1) : Int))) (((F_ChainAlgebra np).1).2.2.2.1) (((F_ChainAlgebra np).1).2.2.2.2) 1) < 0)))]) ⟨rfl, rfl, rfl, trivial⟩; clear hE283
      refine p_tn ?_
      have hE285 := hE284; rw [ht173] at hE285; clear hE284
      refine c_false hE285 rfl ?_
      refine wp_skip ?_
      refine p_tn ?_
      refine c_seq ?_
      refine c_seq ?_
      refine c_reg ?_
      refine q_step (v := .int .i64 (F_l_heldHeyting (markedL (((F_ChainAlgebra np).1).1) 1) (markedL (((F_ChainAlgebra np).1).2.1) (1 + (totL (((F_ChainAlgebra np).1).1) : Int))) (markedL (((F_ChainAlgebra np).1).2.2.1) ((1 + (totL (((F_ChainAlgebra np).1).1) : Int)) + (totL (((F_ChainAlgebra np).1).2.1) : Int))) (((F_ChainAlgebra np).1).2.2.2.1) (((F_ChainAlgebra np).1).2.2.2.2) 1)) hE285 (y_move rfl) rfl rfl rfl ?_; intro a286 hE287; clear hE285
      refine q_step (v := .int .i64 (((1 + (totL (((F_ChainAlgebra np).1).1) : Int)) + (totL (((F_ChainAlgebra np).1).2.1) : Int)) + (totL (((F_ChainAlgebra np).1).2.2.1) : Int))) hE287 (y_move rfl) rfl rfl rfl ?_; intro a288 hE289; clear hE287
      refine q_step (v := .bool (!decide ((F_l_heldHeyting (markedL (((F_ChainAlgebra np).1).1) 1) (markedL (((F_ChainAlgebra np).1).2.1) (1 + (totL (((F_ChainAlgebra np).1).1) : Int))) (markedL (((F_ChainAlgebra np).1).2.2.1) ((1 + (totL (((F_ChainAlgebra np).1).1) : Int)) + (totL (((F_ChainAlgebra np).1).2.1) : Int))) (((F_ChainAlgebra np).1).2.2.2.1) (((F_ChainAlgebra np).1).2.2.2.2) 1) = (((1 + (totL (((F_ChainAlgebra np).1).1) : Int)) + (totL (((F_ChainAlgebra np).1).2.1) : Int)) + (totL (((F_ChainAlgebra np).1).2.2.1) : Int))))) hE289 (y_neq rfl rfl) rfl rfl rfl ?_; intro a290 hE291; clear hE289
      refine c_nil ?_
      have hE292 := hE291.sub (L' := [(62, .bool (!decide ((F_l_heldHeyting (markedL (((F_ChainAlgebra np).1).1) 1) (markedL (((F_ChainAlgebra np).1).2.1) (1 + (totL (((F_ChainAlgebra np).1).1) : Int))) (markedL (((F_ChainAlgebra np).1).2.2.1) ((1 + (totL (((F_ChainAlgebra np).1).1) : Int)) + (totL (((F_ChainAlgebra np).1).2.1) : Int))) (((F_ChainAlgebra np).1).2.2.2.1) (((F_ChainAlgebra np).1).2.2.2.2) 1) = (((1 + (totL (((F_ChainAlgebra np).1).1) : Int)) + (totL (((F_ChainAlgebra np).1).2.1) : Int)) + (totL (((F_ChainAlgebra np).1).2.2.1) : Int)))))]) ⟨rfl, trivial⟩; clear hE291
      refine p_tn ?_
      have hE293 := hE292; rw [ht188] at hE293; clear hE292
      refine c_false hE293 rfl ?_
      refine wp_skip ?_
      refine p_tn ?_
      refine c_seq ?_
      refine c_reg ?_
      refine q_step (v := .bool true) hE293 (y_assign rfl) rfl rfl rfl ?_; intro a294 hE295; clear hE293
      refine c_nil ?_
      have hE296 := hE295.sub (L' := [(2, .bool true)]) ⟨rfl, trivial⟩; clear hE295
      refine p_tn ?_
      refine wp_ret ?_
      have hF : F_l_FnExactChainAlgebra np = true := by unfold F_l_FnExactChainAlgebra; rw [ht188, ht173, ht125, hb99]; first | done | rfl
      refine c_ret1 hE296 rfl rfl ?_
      exact ⟨(by rw [hF]; first | done | (dsimp only; done) | rfl), hS275.ext⟩
theorem FnExactChainAlgebra_true (np : Int) : F_l_FnExactChainAlgebra np = true := by
  unfold F_l_FnExactChainAlgebra
  rw [ChainAlgebra_eq]
  generalize F_s_ChainAlgebra np = w
  obtain ⟨⟨x0, x1, x2, b, t⟩, c⟩ := w
  dsimp only
  have he : F_l_eqHeyting x0 x1 x2 b t x0 x1 x2 b t = true := by
    unfold F_l_eqHeyting
    rw [decide_eq_true rfl, decide_eq_true rfl, decide_eq_true rfl, decide_eq_true rfl, decide_eq_true rfl]; rfl
  have hh : F_l_heldHeyting (markedL x0 1) (markedL x1 (1 + (totL x0 : Int))) (markedL x2 (1 + (totL x0 : Int) + (totL x1 : Int))) b t 1 = 1 + (totL x0 : Int) + (totL x1 : Int) + (totL x2 : Int) := by
    unfold F_l_heldHeyting
    rw [heldSS_eq _ _ (by omega), heldSS_eq _ _ (by omega), heldSS_eq _ _ (by omega), decide_eq_false (by omega), decide_eq_false (by omega), decide_eq_false (by omega)]
    rfl
  rw [he, hh, decide_eq_true rfl, decide_eq_true rfl, decide_eq_false (by omega)]
  rfl
end Go.Proofs.Ytkilkfhjfobcdaa
