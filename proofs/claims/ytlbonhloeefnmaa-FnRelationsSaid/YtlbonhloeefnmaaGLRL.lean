/- GLRL: models and contracts, printed by wip/gen/gen.py -/
import Derived.Test.YtlbonhloeefnmaaGA
import Derived.Test.YtlbonhloeefnmaaGRL
set_option linter.unusedVariables false
set_option linter.unusedSimpArgs false
namespace Go.Proofs.Ytlbonhloeefnmaa
open Go.RowKit

def F_l_FnRelations_L1b (code : List Int) (rec : Int → Except (Bool) (Int)) (i26 : Int) : Except (Bool) (Int) :=
  bif (decide (i26 < (((F_s_DrawImageMask code).1).length : Int))) then (bif (!decide ((gI ((F_TransitiveClosure ((F_s_DrawImageMask code).1)).1) i26) = (orI (gI ((F_s_DrawImageMask code).1) i26) (gI ((F_ComposeRelations ((F_s_DrawImageMask code).1) ((F_TransitiveClosure ((F_s_DrawImageMask code).1)).1)).1) i26)))) then (.error false) else (bif (!decide ((anI (gI ((F_ComposeRelations ((F_TransitiveClosure ((F_s_DrawImageMask code).1)).1) ((F_TransitiveClosure ((F_s_DrawImageMask code).1)).1)).1) i26) (gI ((F_TransitiveClosure ((F_s_DrawImageMask code).1)).1) i26)) = 0)) then (.error false) else (rec (i26 + 1)))) else (.ok i26)
def F_l_FnRelations_L1 (code : List Int) : Nat → Int → Except (Bool) (Int)
  | 0, i26 => .ok i26
  | r + 1, i26 => F_l_FnRelations_L1b code (F_l_FnRelations_L1 code r) i26
def F_l_FnRelations (code : List Int) : Bool :=
  bif (F_l_big code) then true else (bif (!decide (((F_ImageMask ((F_s_DrawImageMask code).1) ((F_s_DrawImageMask code).2)).2) = ((F_s_ImageMask ((F_s_DrawImageMask code).1) ((F_s_DrawImageMask code).2)).2))) then false else (bif (!decide (((F_ImageMask ((F_s_DrawImageMask code).1) ((F_s_DrawImageMask code).2)).1) = ((F_s_ImageMask ((F_s_DrawImageMask code).1) ((F_s_DrawImageMask code).2)).1))) then false else (bif (!decide (((F_ImageMask ((F_s_DrawImageMask code).1) ((F_s_DrawImageMask code).2)).2) = 0)) then (decide (((F_ImageMask ((F_s_DrawImageMask code).1) ((F_s_DrawImageMask code).2)).1) = 0)) else (bif (!decide ((((((F_InverseRelation ((F_s_DrawImageMask code).1)).2) + ((F_BoxMask ((F_s_DrawImageMask code).1) ((F_ImageMask ((F_s_DrawImageMask code).1) ((F_s_DrawImageMask code).2)).1)).2)) + ((F_BoxMask ((F_InverseRelation ((F_s_DrawImageMask code).1)).1) ((F_s_DrawImageMask code).2)).2)) + ((F_ImageMask ((F_s_DrawImageMask code).1) ((F_BoxMask ((F_InverseRelation ((F_s_DrawImageMask code).1)).1) ((F_s_DrawImageMask code).2)).1)).2)) = 0)) then false else (bif (!decide ((anI ((F_s_DrawImageMask code).2) ((F_BoxMask ((F_s_DrawImageMask code).1) ((F_ImageMask ((F_s_DrawImageMask code).1) ((F_s_DrawImageMask code).2)).1)).1)) = 0)) then false else (bif (!decide (((F_ImageMask ((F_InverseRelation ((F_s_DrawImageMask code).1)).1) ((F_BoxMask ((F_InverseRelation ((F_s_DrawImageMask code).1)).1) ((F_s_DrawImageMask code).2)).1)).2) = 0)) then false else (bif (!decide ((anI ((F_ImageMask ((F_InverseRelation ((F_s_DrawImageMask code).1)).1) ((F_BoxMask ((F_InverseRelation ((F_s_DrawImageMask code).1)).1) ((F_s_DrawImageMask code).2)).1)).1) ((F_s_DrawImageMask code).2)) = 0)) then false else (bif (!decide ((anI ((F_ImageMask ((F_s_DrawImageMask code).1) ((F_BoxMask ((F_InverseRelation ((F_s_DrawImageMask code).1)).1) ((F_s_DrawImageMask code).2)).1)).1) (F_l_full9 (((F_s_DrawImageMask code).1).length : Int))) = 0)) then false else (bif (!decide (((((F_TransitiveClosure ((F_s_DrawImageMask code).1)).2) + ((F_ComposeRelations ((F_TransitiveClosure ((F_s_DrawImageMask code).1)).1) ((F_TransitiveClosure ((F_s_DrawImageMask code).1)).1)).2)) + ((F_ComposeRelations ((F_s_DrawImageMask code).1) ((F_TransitiveClosure ((F_s_DrawImageMask code).1)).1)).2)) = 0)) then false else (bif (!decide ((((F_TransitiveClosure ((F_s_DrawImageMask code).1)).1).length : Int) = (((F_s_DrawImageMask code).1).length : Int))) then false else (bif (!decide ((((F_ComposeRelations ((F_TransitiveClosure ((F_s_DrawImageMask code).1)).1) ((F_TransitiveClosure ((F_s_DrawImageMask code).1)).1)).1).length : Int) = (((F_s_DrawImageMask code).1).length : Int))) then false else (bif (!decide ((((F_ComposeRelations ((F_s_DrawImageMask code).1) ((F_TransitiveClosure ((F_s_DrawImageMask code).1)).1)).1).length : Int) = (((F_s_DrawImageMask code).1).length : Int))) then false else (bif (isOk (F_l_FnRelations_L1 code (Int.toNat ((((F_s_DrawImageMask code).1).length : Int) - 0) + 1) 0)) then true else (errD (F_l_FnRelations_L1 code (Int.toNat ((((F_s_DrawImageMask code).1).length : Int) - 0) + 1) 0)))))))))))))))
theorem cf_l_FnRelations (args : Array Value) (w : World) : (callFunc 12 args).run Try.prog w = .ok (.enter 12 args) w := by kernel_rfl
set_option maxRecDepth 100000 in
theorem c_l_FnRelations (codeA : Option Addr) (codeN codeC : Nat) (code : List Int) (w : World) (codeR : RdB w codeA codeN codeC code) :
    Calls Try.prog 12 #[.slice codeA code.length codeC] w (Ret fun v w' => v = .bool (F_l_FnRelations code) ∧ Ext w w') := by
  obtain rfl : codeN = code.length := codeR.len
  have codeLe := codeR.le
  have hS := St.nil w
  refine enter (args := [.slice codeA code.length codeC]) Try.func12 rfl rfl ?_
  rw [Try.ntmps12]; intro a hE
  have hE := hE.sub (L' := [(0, .slice codeA code.length codeC)]) ⟨rfl, trivial⟩
  refine c_seq ?_
  refine c_reg ?_
  refine q_step (v := .bool false) hE (y_assign rfl) rfl rfl rfl ?_; intro a1 hE2; clear hE
  refine c_nil ?_
  have hE3 := hE2.sub (L' := [(0, .slice codeA code.length codeC)]) ⟨rfl, trivial⟩; clear hE2
  refine p_tn ?_
  refine c_seq ?_
  refine c_seq ?_
  refine c_reg ?_
  refine q_step (v := .slice codeA code.length codeC) hE3 (y_move rfl) rfl rfl rfl ?_; intro a4 hE5; clear hE3
  refine l_step hE5 rfl (l_call (f := 49) (argv := [.slice codeA code.length codeC]) hE5 (fun _ => cf_l_big _ _) rfl rfl (c_l_big codeA code.length codeC code w (codeR.ext hS.ext)) ?_)
  rintro _ _ ⟨rfl, rfl⟩ a8 hE9; clear hE5
  refine c_nil ?_
  have hE12 := hE9.sub (L' := [(0, .slice codeA code.length codeC), (28, .bool (F_l_big code))]) ⟨rfl, rfl, trivial⟩; clear hE9
  refine p_tn ?_
  refine c_cond hE12 rfl (fun ht13 => ?_) (fun ht13 => ?_)
  ·
   have hE14 := hE12; rw [ht13] at hE14; clear hE12
   refine c_seq ?_
   refine c_reg ?_
   refine q_step (v := .bool true) hE14 (y_assign rfl) rfl rfl rfl ?_; intro a15 hE16; clear hE14
   refine c_nil ?_
   have hE17 := hE16.sub (L' := [(2, .bool true)]) ⟨rfl, trivial⟩; clear hE16
   refine p_tn ?_
   refine wp_ret ?_
   refine p_tr ?_
   have hF : F_l_FnRelations code = true := by unfold F_l_FnRelations; rw [ht13]; first | done | rfl
   refine c_ret1 hE17 rfl rfl ?_
   exact ⟨(by rw [hF]; first | done | (dsimp only; done) | rfl), hS.ext⟩
  ·
   have hE18 := hE12; rw [ht13] at hE18; clear hE12
   refine wp_skip ?_
   refine p_tn ?_
   refine c_seq ?_
   refine c_reg ?_
   refine q_step (v := .slice codeA code.length codeC) hE18 (y_move rfl) rfl rfl rfl ?_; intro a19 hE20; clear hE18
   refine l_step hE20 rfl (l_call (f := 59) (argv := [.slice codeA code.length codeC]) hE20 (fun _ => cf_s_DrawImageMask _ _) rfl rfl (c_s_DrawImageMask codeA code.length codeC code w (codeR.ext hS.ext)) ?_)
   rintro _ w22 ⟨b27, c28, rfl, ho29, he26⟩ a23 hE24; clear hE20
   have hf30 := DrawImageMask_len codeR
   have hS25 := St.own hS he26 ho29; clear hS
   refine q_step (v := .tuple #[.slice b27 (((F_s_DrawImageMask code).1).length) c28, .int .i64 ((F_s_DrawImageMask code).2)]) hE24 (y_move rfl) rfl rfl rfl ?_; intro a31 hE32; clear hE24
   refine q_step (v := .slice b27 (((F_s_DrawImageMask code).1).length) c28) hE32 (y_extract rfl rfl) rfl rfl rfl ?_; intro a33 hE34; clear hE32
   refine q_step (v := .int .i64 ((F_s_DrawImageMask code).2)) hE34 (y_extract rfl rfl) rfl rfl rfl ?_; intro a35 hE36; clear hE34
   refine q_step (v := .slice b27 (((F_s_DrawImageMask code).1).length) c28) hE36 (y_assign rfl) rfl rfl rfl ?_; intro a37 hE38; clear hE36
   refine q_step (v := .int .i64 ((F_s_DrawImageMask code).2)) hE38 (y_assign rfl) rfl rfl rfl ?_; intro a39 hE40; clear hE38
   refine c_nil ?_
   have hE41 := hE40.sub (L' := [(3, .slice b27 (((F_s_DrawImageMask code).1).length) c28), (4, .int .i64 ((F_s_DrawImageMask code).2))]) ⟨rfl, rfl, trivial⟩; clear hE40
   refine p_tn ?_
   refine c_seq ?_
   refine c_reg ?_
   refine q_step (v := .slice b27 (((F_s_DrawImageMask code).1).length) c28) hE41 (y_move rfl) rfl rfl rfl ?_; intro a42 hE43; clear hE41
   refine q_step (v := .int .i64 ((F_s_DrawImageMask code).2)) hE43 (y_move rfl) rfl rfl rfl ?_; intro a44 hE45; clear hE43
   refine l_step hE45 rfl (l_call (f := 60) (argv := [.slice b27 (((F_s_DrawImageMask code).1).length) c28, .int .i64 ((F_s_DrawImageMask code).2)]) hE45 (fun _ => cf_ImageMask _ _) rfl rfl (c_ImageMask b27 (((F_s_DrawImageMask code).1).length) c28 ((F_s_DrawImageMask code).1) ((F_s_DrawImageMask code).2) w22 (St.rdO (i := 0) hS25 rfl) (by first | omega | (simp only [marked_len]; omega) | (simp only [marked_len] at *; omega))) ?_)
   rintro _ w47 ⟨rfl, he51⟩ a48 hE49; clear hE45
   have hf52 := ImageMask_cd ((F_s_DrawImageMask code).1) ((F_s_DrawImageMask code).2)
   have hS50 := St.go hS25 he51; clear hS25
   refine q_step (v := .tuple #[.int .i64 ((F_ImageMask ((F_s_DrawImageMask code).1) ((F_s_DrawImageMask code).2)).1), .int .i64 ((F_ImageMask ((F_s_DrawImageMask code).1) ((F_s_DrawImageMask code).2)).2)]) hE49 (y_move rfl) rfl rfl rfl ?_; intro a53 hE54; clear hE49
   refine q_step (v := .int .i64 ((F_ImageMask ((F_s_DrawImageMask code).1) ((F_s_DrawImageMask code).2)).1)) hE54 (y_extract rfl rfl) rfl rfl rfl ?_; intro a55 hE56; clear hE54
   refine q_step (v := .int .i64 ((F_ImageMask ((F_s_DrawImageMask code).1) ((F_s_DrawImageMask code).2)).2)) hE56 (y_extract rfl rfl) rfl rfl rfl ?_; intro a57 hE58; clear hE56
   refine q_step (v := .int .i64 ((F_ImageMask ((F_s_DrawImageMask code).1) ((F_s_DrawImageMask code).2)).1)) hE58 (y_assign rfl) rfl rfl rfl ?_; intro a59 hE60; clear hE58
   refine q_step (v := .int .i64 ((F_ImageMask ((F_s_DrawImageMask code).1) ((F_s_DrawImageMask code).2)).2)) hE60 (y_assign rfl) rfl rfl rfl ?_; intro a61 hE62; clear hE60
   refine c_nil ?_
   have hE63 := hE62.sub (L' := [(3, .slice b27 (((F_s_DrawImageMask code).1).length) c28), (4, .int .i64 ((F_s_DrawImageMask code).2)), (5, .int .i64 ((F_ImageMask ((F_s_DrawImageMask code).1) ((F_s_DrawImageMask code).2)).1)), (6, .int .i64 ((F_ImageMask ((F_s_DrawImageMask code).1) ((F_s_DrawImageMask code).2)).2))]) ⟨rfl, rfl, rfl, rfl, trivial⟩; clear hE62
   refine p_tn ?_
   refine c_seq ?_
   refine c_reg ?_
   refine q_step (v := .slice b27 (((F_s_DrawImageMask code).1).length) c28) hE63 (y_move rfl) rfl rfl rfl ?_; intro a64 hE65; clear hE63
   refine q_step (v := .int .i64 ((F_s_DrawImageMask code).2)) hE65 (y_move rfl) rfl rfl rfl ?_; intro a66 hE67; clear hE65
   refine l_step hE67 rfl (l_call (f := 61) (argv := [.slice b27 (((F_s_DrawImageMask code).1).length) c28, .int .i64 ((F_s_DrawImageMask code).2)]) hE67 (fun _ => cf_s_ImageMask _ _) rfl rfl (c_s_ImageMask b27 (((F_s_DrawImageMask code).1).length) c28 ((F_s_DrawImageMask code).1) ((F_s_DrawImageMask code).2) w47 (St.rdO (i := 0) hS50 rfl) (by first | omega | (simp only [marked_len]; omega) | (simp only [marked_len] at *; omega))) ?_)
   rintro _ w69 ⟨rfl, he73⟩ a70 hE71; clear hE67
   have hf74 := s_ImageMask_cd ((F_s_DrawImageMask code).1) ((F_s_DrawImageMask code).2)
   have hS72 := St.go hS50 he73; clear hS50
   refine q_step (v := .tuple #[.int .i64 ((F_s_ImageMask ((F_s_DrawImageMask code).1) ((F_s_DrawImageMask code).2)).1), .int .i64 ((F_s_ImageMask ((F_s_DrawImageMask code).1) ((F_s_DrawImageMask code).2)).2)]) hE71 (y_move rfl) rfl rfl rfl ?_; intro a75 hE76; clear hE71
   refine q_step (v := .int .i64 ((F_s_ImageMask ((F_s_DrawImageMask code).1) ((F_s_DrawImageMask code).2)).1)) hE76 (y_extract rfl rfl) rfl rfl rfl ?_; intro a77 hE78; clear hE76
   refine q_step (v := .int .i64 ((F_s_ImageMask ((F_s_DrawImageMask code).1) ((F_s_DrawImageMask code).2)).2)) hE78 (y_extract rfl rfl) rfl rfl rfl ?_; intro a79 hE80; clear hE78
   refine q_step (v := .int .i64 ((F_s_ImageMask ((F_s_DrawImageMask code).1) ((F_s_DrawImageMask code).2)).1)) hE80 (y_assign rfl) rfl rfl rfl ?_; intro a81 hE82; clear hE80
   refine q_step (v := .int .i64 ((F_s_ImageMask ((F_s_DrawImageMask code).1) ((F_s_DrawImageMask code).2)).2)) hE82 (y_assign rfl) rfl rfl rfl ?_; intro a83 hE84; clear hE82
   refine c_nil ?_
   have hE85 := hE84.sub (L' := [(3, .slice b27 (((F_s_DrawImageMask code).1).length) c28), (4, .int .i64 ((F_s_DrawImageMask code).2)), (5, .int .i64 ((F_ImageMask ((F_s_DrawImageMask code).1) ((F_s_DrawImageMask code).2)).1)), (6, .int .i64 ((F_ImageMask ((F_s_DrawImageMask code).1) ((F_s_DrawImageMask code).2)).2)), (7, .int .i64 ((F_s_ImageMask ((F_s_DrawImageMask code).1) ((F_s_DrawImageMask code).2)).1)), (8, .int .i64 ((F_s_ImageMask ((F_s_DrawImageMask code).1) ((F_s_DrawImageMask code).2)).2))]) ⟨rfl, rfl, rfl, rfl, rfl, rfl, trivial⟩; clear hE84
   refine p_tn ?_
   refine c_seq ?_
   refine c_seq ?_
   refine c_reg ?_
   refine q_step (v := .int .i64 ((F_ImageMask ((F_s_DrawImageMask code).1) ((F_s_DrawImageMask code).2)).2)) hE85 (y_move rfl) rfl rfl rfl ?_; intro a86 hE87; clear hE85
   refine q_step (v := .int .i64 ((F_s_ImageMask ((F_s_DrawImageMask code).1) ((F_s_DrawImageMask code).2)).2)) hE87 (y_move rfl) rfl rfl rfl ?_; intro a88 hE89; clear hE87
   refine q_step (v := .bool (!decide (((F_ImageMask ((F_s_DrawImageMask code).1) ((F_s_DrawImageMask code).2)).2) = ((F_s_ImageMask ((F_s_DrawImageMask code).1) ((F_s_DrawImageMask code).2)).2)))) hE89 (y_neq rfl rfl) rfl rfl rfl ?_; intro a90 hE91; clear hE89
   refine q_step (v := .bool (!decide (((F_ImageMask ((F_s_DrawImageMask code).1) ((F_s_DrawImageMask code).2)).2) = ((F_s_ImageMask ((F_s_DrawImageMask code).1) ((F_s_DrawImageMask code).2)).2)))) hE91 (y_move rfl) rfl rfl rfl ?_; intro a92 hE93; clear hE91
   rcases Bool.eq_false_or_eq_true (!decide (((F_ImageMask ((F_s_DrawImageMask code).1) ((F_s_DrawImageMask code).2)).2) = ((F_s_ImageMask ((F_s_DrawImageMask code).1) ((F_s_DrawImageMask code).2)).2))) with hb94 | hb94
   ·
    have hE95 := hE93; (try rw [hb94] at hE95); clear hE93
    have ht96 := bn_t hb94
    have hp97 := of_decide_eq_false ht96
    refine q_skip hE95 rfl rfl rfl ?_; intro a98 hE99; clear hE95
    refine q_skip hE99 rfl rfl rfl ?_; intro a100 hE101; clear hE99
    refine q_skip hE101 rfl rfl rfl ?_; intro a102 hE103; clear hE101
    refine q_step (v := .bool true) hE103 (y_pick (b := true) rfl rfl) rfl rfl rfl ?_; intro a104 hE105; clear hE103
    refine c_nil ?_
    have hE106 := hE105.sub (L' := [(3, .slice b27 (((F_s_DrawImageMask code).1).length) c28), (4, .int .i64 ((F_s_DrawImageMask code).2)), (5, .int .i64 ((F_ImageMask ((F_s_DrawImageMask code).1) ((F_s_DrawImageMask code).2)).1)), (6, .int .i64 ((F_ImageMask ((F_s_DrawImageMask code).1) ((F_s_DrawImageMask code).2)).2)), (53, .bool true)]) ⟨rfl, rfl, rfl, rfl, rfl, trivial⟩; clear hE105
    refine p_tn ?_
    refine c_true hE106 rfl ?_
    refine c_seq ?_
    refine c_reg ?_
    refine q_step (v := .bool false) hE106 (y_assign rfl) rfl rfl rfl ?_; intro a107 hE108; clear hE106
    refine c_nil ?_
    have hE109 := hE108.sub (L' := [(2, .bool false)]) ⟨rfl, trivial⟩; clear hE108
    refine p_tn ?_
    refine wp_ret ?_
    refine p_tr ?_
    have hF : F_l_FnRelations code = false := by unfold F_l_FnRelations; rw [hb94, ht13]; first | done | rfl
    refine c_ret1 hE109 rfl rfl ?_
    exact ⟨(by rw [hF]; first | done | (dsimp only; done) | rfl), hS72.ext⟩
   ·
    have hE110 := hE93; (try rw [hb94] at hE110); clear hE93
    have ht111 := bn_f hb94
    have hp112 := of_decide_eq_true ht111
    refine q_step (v := .int .i64 ((F_ImageMask ((F_s_DrawImageMask code).1) ((F_s_DrawImageMask code).2)).1)) hE110 (y_move rfl) rfl rfl rfl ?_; intro a113 hE114; clear hE110
    refine q_step (v := .int .i64 ((F_s_ImageMask ((F_s_DrawImageMask code).1) ((F_s_DrawImageMask code).2)).1)) hE114 (y_move rfl) rfl rfl rfl ?_; intro a115 hE116; clear hE114
    refine q_step (v := .bool (!decide (((F_ImageMask ((F_s_DrawImageMask code).1) ((F_s_DrawImageMask code).2)).1) = ((F_s_ImageMask ((F_s_DrawImageMask code).1) ((F_s_DrawImageMask code).2)).1)))) hE116 (y_neq rfl rfl) rfl rfl rfl ?_; intro a117 hE118; clear hE116
    refine q_step (v := .bool (!decide (((F_ImageMask ((F_s_DrawImageMask code).1) ((F_s_DrawImageMask code).2)).1) = ((F_s_ImageMask ((F_s_DrawImageMask code).1) ((F_s_DrawImageMask code).2)).1)))) hE118 (y_pick (b := false) rfl rfl) rfl rfl rfl ?_; intro a119 hE120; clear hE118
    refine c_nil ?_
    have hE121 := hE120.sub (L' := [(3, .slice b27 (((F_s_DrawImageMask code).1).length) c28), (4, .int .i64 ((F_s_DrawImageMask code).2)), (5, .int .i64 ((F_ImageMask ((F_s_DrawImageMask code).1) ((F_s_DrawImageMask code).2)).1)), (6, .int .i64 ((F_ImageMask ((F_s_DrawImageMask code).1) ((F_s_DrawImageMask code).2)).2)), (53, .bool (!decide (((F_ImageMask ((F_s_DrawImageMask code).1) ((F_s_DrawImageMask code).2)).1) = ((F_s_ImageMask ((F_s_DrawImageMask code).1) ((F_s_DrawImageMask code).2)).1))))]) ⟨rfl, rfl, rfl, rfl, rfl, trivial⟩; clear hE120
    refine p_tn ?_
    refine c_cond hE121 rfl (fun ht122 => ?_) (fun ht122 => ?_)
    ·
     have ht123 := bn_t ht122
     have hp124 := of_decide_eq_false ht123
     have hE125 := hE121; rw [ht122] at hE125; clear hE121
     refine c_seq ?_
     refine c_reg ?_
     refine q_step (v := .bool false) hE125 (y_assign rfl) rfl rfl rfl ?_; intro a126 hE127; clear hE125
     refine c_nil ?_
     have hE128 := hE127.sub (L' := [(2, .bool false)]) ⟨rfl, trivial⟩; clear hE127
     refine p_tn ?_
     refine wp_ret ?_
     refine p_tr ?_
     have hF : F_l_FnRelations code = false := by unfold F_l_FnRelations; rw [ht122, hb94, ht13]; first | done | rfl
     refine c_ret1 hE128 rfl rfl ?_
     exact ⟨(by rw [hF]; first | done | (dsimp only; done) | rfl), hS72.ext⟩
    ·
     have ht129 := bn_f ht122
     have hp130 := of_decide_eq_true ht129
     have hE131 := hE121; rw [ht122] at hE131; clear hE121
     refine wp_skip ?_
     refine p_tn ?_
     refine c_seq ?_
     refine c_seq ?_
     refine c_reg ?_
     refine q_step (v := .int .i64 ((F_ImageMask ((F_s_DrawImageMask code).1) ((F_s_DrawImageMask code).2)).2)) hE131 (y_move rfl) rfl rfl rfl ?_; intro a132 hE133; clear hE131
     refine q_step (v := .bool (!decide (((F_ImageMask ((F_s_DrawImageMask code).1) ((F_s_DrawImageMask code).2)).2) = 0))) hE133 (y_neq rfl rfl) rfl rfl rfl ?_; intro a134 hE135; clear hE133
     refine c_nil ?_
     have hE136 := hE135.sub (L' := [(3, .slice b27 (((F_s_DrawImageMask code).1).length) c28), (4, .int .i64 ((F_s_DrawImageMask code).2)), (5, .int .i64 ((F_ImageMask ((F_s_DrawImageMask code).1) ((F_s_DrawImageMask code).2)).1)), (55, .bool (!decide (((F_ImageMask ((F_s_DrawImageMask code).1) ((F_s_DrawImageMask code).2)).2) = 0)))]) ⟨rfl, rfl, rfl, rfl, trivial⟩; clear hE135
     refine p_tn ?_
     refine c_cond hE136 rfl (fun ht137 => ?_) (fun ht137 => ?_)
     ·
      have ht138 := bn_t ht137
      have hp139 := of_decide_eq_false ht138
      have hE140 := hE136; rw [ht137] at hE140; clear hE136
      refine c_seq ?_
      refine c_reg ?_
      refine q_step (v := .int .i64 ((F_ImageMask ((F_s_DrawImageMask code).1) ((F_s_DrawImageMask code).2)).1)) hE140 (y_move rfl) rfl rfl rfl ?_; intro a141 hE142; clear hE140
      refine q_step (v := .bool (decide (((F_ImageMask ((F_s_DrawImageMask code).1) ((F_s_DrawImageMask code).2)).1) = 0))) hE142 (y_eql rfl rfl) rfl rfl rfl ?_; intro a143 hE144; clear hE142
      refine q_step (v := .bool (decide (((F_ImageMask ((F_s_DrawImageMask code).1) ((F_s_DrawImageMask code).2)).1) = 0))) hE144 (y_assign rfl) rfl rfl rfl ?_; intro a145 hE146; clear hE144
      refine c_nil ?_
      have hE147 := hE146.sub (L' := [(2, .bool (decide (((F_ImageMask ((F_s_DrawImageMask code).1) ((F_s_DrawImageMask code).2)).1) = 0)))]) ⟨rfl, trivial⟩; clear hE146
      refine p_tn ?_
      refine wp_ret ?_
      refine p_tr ?_
      have hF : F_l_FnRelations code = decide (((F_ImageMask ((F_s_DrawImageMask code).1) ((F_s_DrawImageMask code).2)).1) = 0) := by unfold F_l_FnRelations; rw [ht137, ht122, hb94, ht13]; first | done | rfl
      refine c_ret1 hE147 rfl rfl ?_
      exact ⟨(by rw [hF]; first | done | (dsimp only; done) | rfl), hS72.ext⟩
     ·
      have ht148 := bn_f ht137
      have hp149 := of_decide_eq_true ht148
      have hE150 := hE136; rw [ht137] at hE150; clear hE136
      refine wp_skip ?_
      refine p_tn ?_
      refine c_seq ?_
      refine c_reg ?_
      refine q_step (v := .slice b27 (((F_s_DrawImageMask code).1).length) c28) hE150 (y_move rfl) rfl rfl rfl ?_; intro a151 hE152; clear hE150
      refine q_step (v := .int .i64 (((F_s_DrawImageMask code).1).length : Int)) hE152 (y_len (e := 2) (by kernel_rfl) rfl) rfl rfl rfl ?_; intro a153 hE154; clear hE152
      refine q_step (v := .int .i64 (((F_s_DrawImageMask code).1).length : Int)) hE154 (y_assign rfl) rfl rfl rfl ?_; intro a155 hE156; clear hE154
      refine c_nil ?_
      have hE157 := hE156.sub (L' := [(3, .slice b27 (((F_s_DrawImageMask code).1).length) c28), (4, .int .i64 ((F_s_DrawImageMask code).2)), (5, .int .i64 ((F_ImageMask ((F_s_DrawImageMask code).1) ((F_s_DrawImageMask code).2)).1)), (9, .int .i64 (((F_s_DrawImageMask code).1).length : Int))]) ⟨rfl, rfl, rfl, rfl, trivial⟩; clear hE156
      refine p_tn ?_
      refine c_seq ?_
      refine c_reg ?_
      refine q_step (v := .slice b27 (((F_s_DrawImageMask code).1).length) c28) hE157 (y_move rfl) rfl rfl rfl ?_; intro a158 hE159; clear hE157
      refine l_step hE159 rfl (l_call (f := 62) (argv := [.slice b27 (((F_s_DrawImageMask code).1).length) c28]) hE159 (fun _ => cf_InverseRelation _ _) rfl rfl (c_InverseRelation b27 (((F_s_DrawImageMask code).1).length) c28 ((F_s_DrawImageMask code).1) w69 (St.rdO (i := 0) hS72 rfl) (by first | omega | (simp only [marked_len]; omega) | (simp only [marked_len] at *; omega))) ?_)
      rintro _ w161 ⟨b166, c167, rfl, ho168, he165⟩ a162 hE163; clear hE159
      have hf169 := InverseRelation_cd ((F_s_DrawImageMask code).1)
      have hS164 := St.own hS72 he165 ho168; clear hS72
      refine q_step (v := .tuple #[.slice b166 (((F_InverseRelation ((F_s_DrawImageMask code).1)).1).length) c167, .int .i64 ((F_InverseRelation ((F_s_DrawImageMask code).1)).2)]) hE163 (y_move rfl) rfl rfl rfl ?_; intro a170 hE171; clear hE163
      refine q_step (v := .slice b166 (((F_InverseRelation ((F_s_DrawImageMask code).1)).1).length) c167) hE171 (y_extract rfl rfl) rfl rfl rfl ?_; intro a172 hE173; clear hE171
      refine q_step (v := .int .i64 ((F_InverseRelation ((F_s_DrawImageMask code).1)).2)) hE173 (y_extract rfl rfl) rfl rfl rfl ?_; intro a174 hE175; clear hE173
      refine q_step (v := .slice b166 (((F_InverseRelation ((F_s_DrawImageMask code).1)).1).length) c167) hE175 (y_assign rfl) rfl rfl rfl ?_; intro a176 hE177; clear hE175
      refine q_step (v := .int .i64 ((F_InverseRelation ((F_s_DrawImageMask code).1)).2)) hE177 (y_assign rfl) rfl rfl rfl ?_; intro a178 hE179; clear hE177
      refine c_nil ?_
      have hE180 := hE179.sub (L' := [(3, .slice b27 (((F_s_DrawImageMask code).1).length) c28), (4, .int .i64 ((F_s_DrawImageMask code).2)), (5, .int .i64 ((F_ImageMask ((F_s_DrawImageMask code).1) ((F_s_DrawImageMask code).2)).1)), (9, .int .i64 (((F_s_DrawImageMask code).1).length : Int)), (10, .slice b166 (((F_InverseRelation ((F_s_DrawImageMask code).1)).1).length) c167), (11, .int .i64 ((F_InverseRelation ((F_s_DrawImageMask code).1)).2))]) ⟨rfl, rfl, rfl, rfl, rfl, rfl, trivial⟩; clear hE179
      refine p_tn ?_
      refine c_seq ?_
      refine c_reg ?_
      refine q_step (v := .slice b27 (((F_s_DrawImageMask code).1).length) c28) hE180 (y_move rfl) rfl rfl rfl ?_; intro a181 hE182; clear hE180
      refine q_step (v := .int .i64 ((F_ImageMask ((F_s_DrawImageMask code).1) ((F_s_DrawImageMask code).2)).1)) hE182 (y_move rfl) rfl rfl rfl ?_; intro a183 hE184; clear hE182
      refine l_step hE184 rfl (l_call (f := 63) (argv := [.slice b27 (((F_s_DrawImageMask code).1).length) c28, .int .i64 ((F_ImageMask ((F_s_DrawImageMask code).1) ((F_s_DrawImageMask code).2)).1)]) hE184 (fun _ => cf_BoxMask _ _) rfl rfl (c_BoxMask b27 (((F_s_DrawImageMask code).1).length) c28 ((F_s_DrawImageMask code).1) ((F_ImageMask ((F_s_DrawImageMask code).1) ((F_s_DrawImageMask code).2)).1) w161 (St.rdO (i := 1) hS164 rfl) (by first | omega | (simp only [marked_len]; omega) | (simp only [marked_len] at *; omega))) ?_)
      rintro _ w186 ⟨rfl, he190⟩ a187 hE188; clear hE184
      have hf191 := BoxMask_cd ((F_s_DrawImageMask code).1) ((F_ImageMask ((F_s_DrawImageMask code).1) ((F_s_DrawImageMask code).2)).1)
      have hS189 := St.go hS164 he190; clear hS164
      refine q_step (v := .tuple #[.int .i64 ((F_BoxMask ((F_s_DrawImageMask code).1) ((F_ImageMask ((F_s_DrawImageMask code).1) ((F_s_DrawImageMask code).2)).1)).1), .int .i64 ((F_BoxMask ((F_s_DrawImageMask code).1) ((F_ImageMask ((F_s_DrawImageMask code).1) ((F_s_DrawImageMask code).2)).1)).2)]) hE188 (y_move rfl) rfl rfl rfl ?_; intro a192 hE193; clear hE188
      refine q_step (v := .int .i64 ((F_BoxMask ((F_s_DrawImageMask code).1) ((F_ImageMask ((F_s_DrawImageMask code).1) ((F_s_DrawImageMask code).2)).1)).1)) hE193 (y_extract rfl rfl) rfl rfl rfl ?_; intro a194 hE195; clear hE193
      refine q_step (v := .int .i64 ((F_BoxMask ((F_s_DrawImageMask code).1) ((F_ImageMask ((F_s_DrawImageMask code).1) ((F_s_DrawImageMask code).2)).1)).2)) hE195 (y_extract rfl rfl) rfl rfl rfl ?_; intro a196 hE197; clear hE195
      refine q_step (v := .int .i64 ((F_BoxMask ((F_s_DrawImageMask code).1) ((F_ImageMask ((F_s_DrawImageMask code).1) ((F_s_DrawImageMask code).2)).1)).1)) hE197 (y_assign rfl) rfl rfl rfl ?_; intro a198 hE199; clear hE197
      refine q_step (v := .int .i64 ((F_BoxMask ((F_s_DrawImageMask code).1) ((F_ImageMask ((F_s_DrawImageMask code).1) ((F_s_DrawImageMask code).2)).1)).2)) hE199 (y_assign rfl) rfl rfl rfl ?_; intro a200 hE201; clear hE199
      refine c_nil ?_
      have hE202 := hE201.sub (L' := [(3, .slice b27 (((F_s_DrawImageMask code).1).length) c28), (4, .int .i64 ((F_s_DrawImageMask code).2)), (9, .int .i64 (((F_s_DrawImageMask code).1).length : Int)), (10, .slice b166 (((F_InverseRelation ((F_s_DrawImageMask code).1)).1).length) c167), (11, .int .i64 ((F_InverseRelation ((F_s_DrawImageMask code).1)).2)), (12, .int .i64 ((F_BoxMask ((F_s_DrawImageMask code).1) ((F_ImageMask ((F_s_DrawImageMask code).1) ((F_s_DrawImageMask code).2)).1)).1)), (13, .int .i64 ((F_BoxMask ((F_s_DrawImageMask code).1) ((F_ImageMask ((F_s_DrawImageMask code).1) ((F_s_DrawImageMask code).2)).1)).2))]) ⟨rfl, rfl, rfl, rfl, rfl, rfl, rfl, trivial⟩; clear hE201
      refine p_tn ?_
      refine c_seq ?_
      refine c_reg ?_
      refine q_step (v := .slice b166 (((F_InverseRelation ((F_s_DrawImageMask code).1)).1).length) c167) hE202 (y_move rfl) rfl rfl rfl ?_; intro a203 hE204; clear hE202
      refine q_step (v := .int .i64 ((F_s_DrawImageMask code).2)) hE204 (y_move rfl) rfl rfl rfl ?_; intro a205 hE206; clear hE204
      refine l_step hE206 rfl (l_call (f := 63) (argv := [.slice b166 (((F_InverseRelation ((F_s_DrawImageMask code).1)).1).length) c167, .int .i64 ((F_s_DrawImageMask code).2)]) hE206 (fun _ => cf_BoxMask _ _) rfl rfl (c_BoxMask b166 (((F_InverseRelation ((F_s_DrawImageMask code).1)).1).length) c167 ((F_InverseRelation ((F_s_DrawImageMask code).1)).1) ((F_s_DrawImageMask code).2) w186 (St.rdO (i := 0) hS189 rfl) (by first | omega | (simp only [marked_len]; omega) | (simp only [marked_len] at *; omega))) ?_)
      rintro _ w208 ⟨rfl, he212⟩ a209 hE210; clear hE206
      have hf213 := BoxMask_cd ((F_InverseRelation ((F_s_DrawImageMask code).1)).1) ((F_s_DrawImageMask code).2)
      have hS211 := St.go hS189 he212; clear hS189
      refine q_step (v := .tuple #[.int .i64 ((F_BoxMask ((F_InverseRelation ((F_s_DrawImageMask code).1)).1) ((F_s_DrawImageMask code).2)).1), .int .i64 ((F_BoxMask ((F_InverseRelation ((F_s_DrawImageMask code).1)).1) ((F_s_DrawImageMask code).2)).2)]) hE210 (y_move rfl) rfl rfl rfl ?_; intro a214 hE215; clear hE210
      refine q_step (v := .int .i64 ((F_BoxMask ((F_InverseRelation ((F_s_DrawImageMask code).1)).1) ((F_s_DrawImageMask code).2)).1)) hE215 (y_extract rfl rfl) rfl rfl rfl ?_; intro a216 hE217; clear hE215
      refine q_step (v := .int .i64 ((F_BoxMask ((F_InverseRelation ((F_s_DrawImageMask code).1)).1) ((F_s_DrawImageMask code).2)).2)) hE217 (y_extract rfl rfl) rfl rfl rfl ?_; intro a218 hE219; clear hE217
      refine q_step (v := .int .i64 ((F_BoxMask ((F_InverseRelation ((F_s_DrawImageMask code).1)).1) ((F_s_DrawImageMask code).2)).1)) hE219 (y_assign rfl) rfl rfl rfl ?_; intro a220 hE221; clear hE219
      refine q_step (v := .int .i64 ((F_BoxMask ((F_InverseRelation ((F_s_DrawImageMask code).1)).1) ((F_s_DrawImageMask code).2)).2)) hE221 (y_assign rfl) rfl rfl rfl ?_; intro a222 hE223; clear hE221
      refine c_nil ?_
      have hE224 := hE223.sub (L' := [(3, .slice b27 (((F_s_DrawImageMask code).1).length) c28), (4, .int .i64 ((F_s_DrawImageMask code).2)), (9, .int .i64 (((F_s_DrawImageMask code).1).length : Int)), (10, .slice b166 (((F_InverseRelation ((F_s_DrawImageMask code).1)).1).length) c167), (11, .int .i64 ((F_InverseRelation ((F_s_DrawImageMask code).1)).2)), (12, .int .i64 ((F_BoxMask ((F_s_DrawImageMask code).1) ((F_ImageMask ((F_s_DrawImageMask code).1) ((F_s_DrawImageMask code).2)).1)).1)), (13, .int .i64 ((F_BoxMask ((F_s_DrawImageMask code).1) ((F_ImageMask ((F_s_DrawImageMask code).1) ((F_s_DrawImageMask code).2)).1)).2)), (14, .int .i64 ((F_BoxMask ((F_InverseRelation ((F_s_DrawImageMask code).1)).1) ((F_s_DrawImageMask code).2)).1)), (15, .int .i64 ((F_BoxMask ((F_InverseRelation ((F_s_DrawImageMask code).1)).1) ((F_s_DrawImageMask code).2)).2))]) ⟨rfl, rfl, rfl, rfl, rfl, rfl, rfl, rfl, rfl, trivial⟩; clear hE223
      refine p_tn ?_
      refine c_seq ?_
      refine c_reg ?_
      refine q_step (v := .slice b27 (((F_s_DrawImageMask code).1).length) c28) hE224 (y_move rfl) rfl rfl rfl ?_; intro a225 hE226; clear hE224
      refine q_step (v := .int .i64 ((F_BoxMask ((F_InverseRelation ((F_s_DrawImageMask code).1)).1) ((F_s_DrawImageMask code).2)).1)) hE226 (y_move rfl) rfl rfl rfl ?_; intro a227 hE228; clear hE226
      refine l_step hE228 rfl (l_call (f := 60) (argv := [.slice b27 (((F_s_DrawImageMask code).1).length) c28, .int .i64 ((F_BoxMask ((F_InverseRelation ((F_s_DrawImageMask code).1)).1) ((F_s_DrawImageMask code).2)).1)]) hE228 (fun _ => cf_ImageMask _ _) rfl rfl (c_ImageMask b27 (((F_s_DrawImageMask code).1).length) c28 ((F_s_DrawImageMask code).1) ((F_BoxMask ((F_InverseRelation ((F_s_DrawImageMask code).1)).1) ((F_s_DrawImageMask code).2)).1) w208 (St.rdO (i := 1) hS211 rfl) (by first | omega | (simp only [marked_len]; omega) | (simp only [marked_len] at *; omega))) ?_)
      rintro _ w230 ⟨rfl, he234⟩ a231 hE232; clear hE228
      have hf235 := ImageMask_cd ((F_s_DrawImageMask code).1) ((F_BoxMask ((F_InverseRelation ((F_s_DrawImageMask code).1)).1) ((F_s_DrawImageMask code).2)).1)
      have hS233 := St.go hS211 he234; clear hS211
      refine q_step (v := .tuple #[.int .i64 ((F_ImageMask ((F_s_DrawImageMask code).1) ((F_BoxMask ((F_InverseRelation ((F_s_DrawImageMask code).1)).1) ((F_s_DrawImageMask code).2)).1)).1), .int .i64 ((F_ImageMask ((F_s_DrawImageMask code).1) ((F_BoxMask ((F_InverseRelation ((F_s_DrawImageMask code).1)).1) ((F_s_DrawImageMask code).2)).1)).2)]) hE232 (y_move rfl) rfl rfl rfl ?_; intro a236 hE237; clear hE232
      refine q_step (v := .int .i64 ((F_ImageMask ((F_s_DrawImageMask code).1) ((F_BoxMask ((F_InverseRelation ((F_s_DrawImageMask code).1)).1) ((F_s_DrawImageMask code).2)).1)).1)) hE237 (y_extract rfl rfl) rfl rfl rfl ?_; intro a238 hE239; clear hE237
      refine q_step (v := .int .i64 ((F_ImageMask ((F_s_DrawImageMask code).1) ((F_BoxMask ((F_InverseRelation ((F_s_DrawImageMask code).1)).1) ((F_s_DrawImageMask code).2)).1)).2)) hE239 (y_extract rfl rfl) rfl rfl rfl ?_; intro a240 hE241; clear hE239
      refine q_step (v := .int .i64 ((F_ImageMask ((F_s_DrawImageMask code).1) ((F_BoxMask ((F_InverseRelation ((F_s_DrawImageMask code).1)).1) ((F_s_DrawImageMask code).2)).1)).1)) hE241 (y_assign rfl) rfl rfl rfl ?_; intro a242 hE243; clear hE241
      refine q_step (v := .int .i64 ((F_ImageMask ((F_s_DrawImageMask code).1) ((F_BoxMask ((F_InverseRelation ((F_s_DrawImageMask code).1)).1) ((F_s_DrawImageMask code).2)).1)).2)) hE243 (y_assign rfl) rfl rfl rfl ?_; intro a244 hE245; clear hE243
      refine c_nil ?_
      have hE246 := hE245.sub (L' := [(3, .slice b27 (((F_s_DrawImageMask code).1).length) c28), (4, .int .i64 ((F_s_DrawImageMask code).2)), (9, .int .i64 (((F_s_DrawImageMask code).1).length : Int)), (10, .slice b166 (((F_InverseRelation ((F_s_DrawImageMask code).1)).1).length) c167), (11, .int .i64 ((F_InverseRelation ((F_s_DrawImageMask code).1)).2)), (12, .int .i64 ((F_BoxMask ((F_s_DrawImageMask code).1) ((F_ImageMask ((F_s_DrawImageMask code).1) ((F_s_DrawImageMask code).2)).1)).1)), (13, .int .i64 ((F_BoxMask ((F_s_DrawImageMask code).1) ((F_ImageMask ((F_s_DrawImageMask code).1) ((F_s_DrawImageMask code).2)).1)).2)), (14, .int .i64 ((F_BoxMask ((F_InverseRelation ((F_s_DrawImageMask code).1)).1) ((F_s_DrawImageMask code).2)).1)), (15, .int .i64 ((F_BoxMask ((F_InverseRelation ((F_s_DrawImageMask code).1)).1) ((F_s_DrawImageMask code).2)).2)), (16, .int .i64 ((F_ImageMask ((F_s_DrawImageMask code).1) ((F_BoxMask ((F_InverseRelation ((F_s_DrawImageMask code).1)).1) ((F_s_DrawImageMask code).2)).1)).1)), (17, .int .i64 ((F_ImageMask ((F_s_DrawImageMask code).1) ((F_BoxMask ((F_InverseRelation ((F_s_DrawImageMask code).1)).1) ((F_s_DrawImageMask code).2)).1)).2))]) ⟨rfl, rfl, rfl, rfl, rfl, rfl, rfl, rfl, rfl, rfl, rfl, trivial⟩; clear hE245
      refine p_tn ?_
      refine c_seq ?_
      refine c_seq ?_
      refine c_reg ?_
      refine q_step (v := .int .i64 ((F_InverseRelation ((F_s_DrawImageMask code).1)).2)) hE246 (y_move rfl) rfl rfl rfl ?_; intro a247 hE248; clear hE246
      refine q_step (v := .int .i64 ((F_BoxMask ((F_s_DrawImageMask code).1) ((F_ImageMask ((F_s_DrawImageMask code).1) ((F_s_DrawImageMask code).2)).1)).2)) hE248 (y_move rfl) rfl rfl rfl ?_; intro a249 hE250; clear hE248
      refine q_step (v := .int .i64 (((F_InverseRelation ((F_s_DrawImageMask code).1)).2) + ((F_BoxMask ((F_s_DrawImageMask code).1) ((F_ImageMask ((F_s_DrawImageMask code).1) ((F_s_DrawImageMask code).2)).1)).2))) hE250 (y_add rfl rfl ⟨(by first | omega | (simp only [marked_len]; omega) | (simp only [marked_len] at *; omega)), (by first | omega | (simp only [marked_len]; omega) | (simp only [marked_len] at *; omega))⟩) rfl rfl rfl ?_; intro a251 hE252; clear hE250
      refine q_step (v := .int .i64 ((F_BoxMask ((F_InverseRelation ((F_s_DrawImageMask code).1)).1) ((F_s_DrawImageMask code).2)).2)) hE252 (y_move rfl) rfl rfl rfl ?_; intro a253 hE254; clear hE252
      refine q_step (v := .int .i64 ((((F_InverseRelation ((F_s_DrawImageMask code).1)).2) + ((F_BoxMask ((F_s_DrawImageMask code).1) ((F_ImageMask ((F_s_DrawImageMask code).1) ((F_s_DrawImageMask code).2)).1)).2)) + ((F_BoxMask ((F_InverseRelation ((F_s_DrawImageMask code).1)).1) ((F_s_DrawImageMask code).2)).2))) hE254 (y_add rfl rfl ⟨(by first | omega | (simp only [marked_len]; omega) | (simp only [marked_len] at *; omega)), (by first | omega | (simp only [marked_len]; omega) | (simp only [marked_len] at *; omega))⟩) rfl rfl rfl ?_; intro a255 hE256; clear hE254
      refine q_step (v := .int .i64 ((F_ImageMask ((F_s_DrawImageMask code).1) ((F_BoxMask ((F_InverseRelation ((F_s_DrawImageMask code).1)).1) ((F_s_DrawImageMask code).2)).1)).2)) hE256 (y_move rfl) rfl rfl rfl ?_; intro a257 hE258; clear hE256
      refine q_step (v := .int .i64 (((((F_InverseRelation ((F_s_DrawImageMask code).1)).2) + ((F_BoxMask ((F_s_DrawImageMask code).1) ((F_ImageMask ((F_s_DrawImageMask code).1) ((F_s_DrawImageMask code).2)).1)).2)) + ((F_BoxMask ((F_InverseRelation ((F_s_DrawImageMask code).1)).1) ((F_s_DrawImageMask code).2)).2)) + ((F_ImageMask ((F_s_DrawImageMask code).1) ((F_BoxMask ((F_InverseRelation ((F_s_DrawImageMask code).1)).1) ((F_s_DrawImageMask code).2)).1)).2))) hE258 (y_add rfl rfl ⟨(by first | omega | (simp only [marked_len]; omega) | (simp only [marked_len] at *; omega)), (by first | omega | (simp only [marked_len]; omega) | (simp only [marked_len] at *; omega))⟩) rfl rfl rfl ?_; intro a259 hE260; clear hE258
      refine q_step (v := .bool (!decide ((((((F_InverseRelation ((F_s_DrawImageMask code).1)).2) + ((F_BoxMask ((F_s_DrawImageMask code).1) ((F_ImageMask ((F_s_DrawImageMask code).1) ((F_s_DrawImageMask code).2)).1)).2)) + ((F_BoxMask ((F_InverseRelation ((F_s_DrawImageMask code).1)).1) ((F_s_DrawImageMask code).2)).2)) + ((F_ImageMask ((F_s_DrawImageMask code).1) ((F_BoxMask ((F_InverseRelation ((F_s_DrawImageMask code).1)).1) ((F_s_DrawImageMask code).2)).1)).2)) = 0))) hE260 (y_neq rfl rfl) rfl rfl rfl ?_; intro a261 hE262; clear hE260
      refine q_step (v := .bool (!decide ((((((F_InverseRelation ((F_s_DrawImageMask code).1)).2) + ((F_BoxMask ((F_s_DrawImageMask code).1) ((F_ImageMask ((F_s_DrawImageMask code).1) ((F_s_DrawImageMask code).2)).1)).2)) + ((F_BoxMask ((F_InverseRelation ((F_s_DrawImageMask code).1)).1) ((F_s_DrawImageMask code).2)).2)) + ((F_ImageMask ((F_s_DrawImageMask code).1) ((F_BoxMask ((F_InverseRelation ((F_s_DrawImageMask code).1)).1) ((F_s_DrawImageMask code).2)).1)).2)) = 0))) hE262 (y_move rfl) rfl rfl rfl ?_; intro a263 hE264; clear hE262
      rcases Bool.eq_false_or_eq_true (!decide ((((((F_InverseRelation ((F_s_DrawImageMask code).1)).2) + ((F_BoxMask ((F_s_DrawImageMask code).1) ((F_ImageMask ((F_s_DrawImageMask code).1) ((F_s_DrawImageMask code).2)).1)).2)) + ((F_BoxMask ((F_InverseRelation ((F_s_DrawImageMask code).1)).1) ((F_s_DrawImageMask code).2)).2)) + ((F_ImageMask ((F_s_DrawImageMask code).1) ((F_BoxMask ((F_InverseRelation ((F_s_DrawImageMask code).1)).1) ((F_s_DrawImageMask code).2)).1)).2)) = 0)) with hb265 | hb265
      ·
       have hE266 := hE264; (try rw [hb265] at hE266); clear hE264
       have ht267 := bn_t hb265
       have hp268 := of_decide_eq_false ht267
       refine q_skip hE266 rfl rfl rfl ?_; intro a269 hE270; clear hE266
       refine q_skip hE270 rfl rfl rfl ?_; intro a271 hE272; clear hE270
       refine q_skip hE272 rfl rfl rfl ?_; intro a273 hE274; clear hE272
       refine q_skip hE274 rfl rfl rfl ?_; intro a275 hE276; clear hE274
       refine q_step (v := .bool true) hE276 (y_pick (b := true) rfl rfl) rfl rfl rfl ?_; intro a277 hE278; clear hE276
       refine c_nil ?_
       have hE279 := hE278.sub (L' := [(3, .slice b27 (((F_s_DrawImageMask code).1).length) c28), (4, .int .i64 ((F_s_DrawImageMask code).2)), (9, .int .i64 (((F_s_DrawImageMask code).1).length : Int)), (10, .slice b166 (((F_InverseRelation ((F_s_DrawImageMask code).1)).1).length) c167), (14, .int .i64 ((F_BoxMask ((F_InverseRelation ((F_s_DrawImageMask code).1)).1) ((F_s_DrawImageMask code).2)).1)), (16, .int .i64 ((F_ImageMask ((F_s_DrawImageMask code).1) ((F_BoxMask ((F_InverseRelation ((F_s_DrawImageMask code).1)).1) ((F_s_DrawImageMask code).2)).1)).1)), (96, .bool true)]) ⟨rfl, rfl, rfl, rfl, rfl, rfl, rfl, trivial⟩; clear hE278
       refine p_tn ?_
       refine c_true hE279 rfl ?_
       refine c_seq ?_
       refine c_reg ?_
       refine q_step (v := .bool false) hE279 (y_assign rfl) rfl rfl rfl ?_; intro a280 hE281; clear hE279
       refine c_nil ?_
       have hE282 := hE281.sub (L' := [(2, .bool false)]) ⟨rfl, trivial⟩; clear hE281
       refine p_tn ?_
       refine wp_ret ?_
       refine p_tr ?_
       have hF : F_l_FnRelations code = false := by unfold F_l_FnRelations; rw [hb265, ht137, ht122, hb94, ht13]; first | done | rfl
       refine c_ret1 hE282 rfl rfl ?_
       exact ⟨(by rw [hF]; first | done | (dsimp only; done) | rfl), hS233.ext⟩
      ·
       have hE283 := hE264; (try rw [hb265] at hE283); clear hE264
       have ht284 := bn_f hb265
       have hp285 := of_decide_eq_true ht284
       refine q_step (v := .int .i64 ((F_s_DrawImageMask code).2)) hE283 (y_move rfl) rfl rfl rfl ?_; intro a286 hE287; clear hE283
       refine q_step (v := .int .i64 ((F_BoxMask ((F_s_DrawImageMask code).1) ((F_ImageMask ((F_s_DrawImageMask code).1) ((F_s_DrawImageMask code).2)).1)).1)) hE287 (y_move rfl) rfl rfl rfl ?_; intro a288 hE289; clear hE287
       refine q_step (v := .int .i64 (anI ((F_s_DrawImageMask code).2) ((F_BoxMask ((F_s_DrawImageMask code).1) ((F_ImageMask ((F_s_DrawImageMask code).1) ((F_s_DrawImageMask code).2)).1)).1))) hE289 (y_andNot rfl rfl) rfl rfl rfl ?_; intro a290 hE291; clear hE289
       refine q_step (v := .bool (!decide ((anI ((F_s_DrawImageMask code).2) ((F_BoxMask ((F_s_DrawImageMask code).1) ((F_ImageMask ((F_s_DrawImageMask code).1) ((F_s_DrawImageMask code).2)).1)).1)) = 0))) hE291 (y_neq rfl rfl) rfl rfl rfl ?_; intro a292 hE293; clear hE291
       refine q_step (v := .bool (!decide ((anI ((F_s_DrawImageMask code).2) ((F_BoxMask ((F_s_DrawImageMask code).1) ((F_ImageMask ((F_s_DrawImageMask code).1) ((F_s_DrawImageMask code).2)).1)).1)) = 0))) hE293 (y_pick (b := false) rfl rfl) rfl rfl rfl ?_; intro a294 hE295; clear hE293
       refine c_nil ?_
       have hE296 := hE295.sub (L' := [(3, .slice b27 (((F_s_DrawImageMask code).1).length) c28), (4, .int .i64 ((F_s_DrawImageMask code).2)), (9, .int .i64 (((F_s_DrawImageMask code).1).length : Int)), (10, .slice b166 (((F_InverseRelation ((F_s_DrawImageMask code).1)).1).length) c167), (14, .int .i64 ((F_BoxMask ((F_InverseRelation ((F_s_DrawImageMask code).1)).1) ((F_s_DrawImageMask code).2)).1)), (16, .int .i64 ((F_ImageMask ((F_s_DrawImageMask code).1) ((F_BoxMask ((F_InverseRelation ((F_s_DrawImageMask code).1)).1) ((F_s_DrawImageMask code).2)).1)).1)), (96, .bool (!decide ((anI ((F_s_DrawImageMask code).2) ((F_BoxMask ((F_s_DrawImageMask code).1) ((F_ImageMask ((F_s_DrawImageMask code).1) ((F_s_DrawImageMask code).2)).1)).1)) = 0)))]) ⟨rfl, rfl, rfl, rfl, rfl, rfl, rfl, trivial⟩; clear hE295
       refine p_tn ?_
       refine c_cond hE296 rfl (fun ht297 => ?_) (fun ht297 => ?_)
       ·
        have ht298 := bn_t ht297
        have hp299 := of_decide_eq_false ht298
        have hE300 := hE296; rw [ht297] at hE300; clear hE296
        refine c_seq ?_
        refine c_reg ?_
        refine q_step (v := .bool false) hE300 (y_assign rfl) rfl rfl rfl ?_; intro a301 hE302; clear hE300
        refine c_nil ?_
        have hE303 := hE302.sub (L' := [(2, .bool false)]) ⟨rfl, trivial⟩; clear hE302
        refine p_tn ?_
        refine wp_ret ?_
        refine p_tr ?_
        have hF : F_l_FnRelations code = false := by unfold F_l_FnRelations; rw [ht297, hb265, ht137, ht122, hb94, ht13]; first | done | rfl
        refine c_ret1 hE303 rfl rfl ?_
        exact ⟨(by rw [hF]; first | done | (dsimp only; done) | rfl), hS233.ext⟩
       ·
        have ht304 := bn_f ht297
        have hp305 := of_decide_eq_true ht304
        have hE306 := hE296; rw [ht297] at hE306; clear hE296
        refine wp_skip ?_
        refine p_tn ?_
        refine c_seq ?_
        refine c_reg ?_
        refine q_step (v := .slice b166 (((F_InverseRelation ((F_s_DrawImageMask code).1)).1).length) c167) hE306 (y_move rfl) rfl rfl rfl ?_; intro a307 hE308; clear hE306
        refine q_step (v := .int .i64 ((F_BoxMask ((F_InverseRelation ((F_s_DrawImageMask code).1)).1) ((F_s_DrawImageMask code).2)).1)) hE308 (y_move rfl) rfl rfl rfl ?_; intro a309 hE310; clear hE308
        refine l_step hE310 rfl (l_call (f := 60) (argv := [.slice b166 (((F_InverseRelation ((F_s_DrawImageMask code).1)).1).length) c167, .int .i64 ((F_BoxMask ((F_InverseRelation ((F_s_DrawImageMask code).1)).1) ((F_s_DrawImageMask code).2)).1)]) hE310 (fun _ => cf_ImageMask _ _) rfl rfl (c_ImageMask b166 (((F_InverseRelation ((F_s_DrawImageMask code).1)).1).length) c167 ((F_InverseRelation ((F_s_DrawImageMask code).1)).1) ((F_BoxMask ((F_InverseRelation ((F_s_DrawImageMask code).1)).1) ((F_s_DrawImageMask code).2)).1) w230 (St.rdO (i := 0) hS233 rfl) (by first | omega | (simp only [marked_len]; omega) | (simp only [marked_len] at *; omega))) ?_)
        rintro _ w312 ⟨rfl, he316⟩ a313 hE314; clear hE310
        have hf317 := ImageMask_cd ((F_InverseRelation ((F_s_DrawImageMask code).1)).1) ((F_BoxMask ((F_InverseRelation ((F_s_DrawImageMask code).1)).1) ((F_s_DrawImageMask code).2)).1)
        have hS315 := St.go hS233 he316; clear hS233
        refine q_step (v := .tuple #[.int .i64 ((F_ImageMask ((F_InverseRelation ((F_s_DrawImageMask code).1)).1) ((F_BoxMask ((F_InverseRelation ((F_s_DrawImageMask code).1)).1) ((F_s_DrawImageMask code).2)).1)).1), .int .i64 ((F_ImageMask ((F_InverseRelation ((F_s_DrawImageMask code).1)).1) ((F_BoxMask ((F_InverseRelation ((F_s_DrawImageMask code).1)).1) ((F_s_DrawImageMask code).2)).1)).2)]) hE314 (y_move rfl) rfl rfl rfl ?_; intro a318 hE319; clear hE314
        refine q_step (v := .int .i64 ((F_ImageMask ((F_InverseRelation ((F_s_DrawImageMask code).1)).1) ((F_BoxMask ((F_InverseRelation ((F_s_DrawImageMask code).1)).1) ((F_s_DrawImageMask code).2)).1)).1)) hE319 (y_extract rfl rfl) rfl rfl rfl ?_; intro a320 hE321; clear hE319
        refine q_step (v := .int .i64 ((F_ImageMask ((F_InverseRelation ((F_s_DrawImageMask code).1)).1) ((F_BoxMask ((F_InverseRelation ((F_s_DrawImageMask code).1)).1) ((F_s_DrawImageMask code).2)).1)).2)) hE321 (y_extract rfl rfl) rfl rfl rfl ?_; intro a322 hE323; clear hE321
        refine q_step (v := .int .i64 ((F_ImageMask ((F_InverseRelation ((F_s_DrawImageMask code).1)).1) ((F_BoxMask ((F_InverseRelation ((F_s_DrawImageMask code).1)).1) ((F_s_DrawImageMask code).2)).1)).1)) hE323 (y_assign rfl) rfl rfl rfl ?_; intro a324 hE325; clear hE323
        refine q_step (v := .int .i64 ((F_ImageMask ((F_InverseRelation ((F_s_DrawImageMask code).1)).1) ((F_BoxMask ((F_InverseRelation ((F_s_DrawImageMask code).1)).1) ((F_s_DrawImageMask code).2)).1)).2)) hE325 (y_assign rfl) rfl rfl rfl ?_; intro a326 hE327; clear hE325
        refine c_nil ?_
        have hE328 := hE327.sub (L' := [(3, .slice b27 (((F_s_DrawImageMask code).1).length) c28), (4, .int .i64 ((F_s_DrawImageMask code).2)), (9, .int .i64 (((F_s_DrawImageMask code).1).length : Int)), (16, .int .i64 ((F_ImageMask ((F_s_DrawImageMask code).1) ((F_BoxMask ((F_InverseRelation ((F_s_DrawImageMask code).1)).1) ((F_s_DrawImageMask code).2)).1)).1)), (18, .int .i64 ((F_ImageMask ((F_InverseRelation ((F_s_DrawImageMask code).1)).1) ((F_BoxMask ((F_InverseRelation ((F_s_DrawImageMask code).1)).1) ((F_s_DrawImageMask code).2)).1)).1)), (19, .int .i64 ((F_ImageMask ((F_InverseRelation ((F_s_DrawImageMask code).1)).1) ((F_BoxMask ((F_InverseRelation ((F_s_DrawImageMask code).1)).1) ((F_s_DrawImageMask code).2)).1)).2))]) ⟨rfl, rfl, rfl, rfl, rfl, rfl, trivial⟩; clear hE327
        refine p_tn ?_
        refine c_seq ?_
        refine c_seq ?_
        refine c_reg ?_
        refine q_step (v := .int .i64 ((F_ImageMask ((F_InverseRelation ((F_s_DrawImageMask code).1)).1) ((F_BoxMask ((F_InverseRelation ((F_s_DrawImageMask code).1)).1) ((F_s_DrawImageMask code).2)).1)).2)) hE328 (y_move rfl) rfl rfl rfl ?_; intro a329 hE330; clear hE328
        refine q_step (v := .bool (!decide (((F_ImageMask ((F_InverseRelation ((F_s_DrawImageMask code).1)).1) ((F_BoxMask ((F_InverseRelation ((F_s_DrawImageMask code).1)).1) ((F_s_DrawImageMask code).2)).1)).2) = 0))) hE330 (y_neq rfl rfl) rfl rfl rfl ?_; intro a331 hE332; clear hE330
        refine q_step (v := .bool (!decide (((F_ImageMask ((F_InverseRelation ((F_s_DrawImageMask code).1)).1) ((F_BoxMask ((F_InverseRelation ((F_s_DrawImageMask code).1)).1) ((F_s_DrawImageMask code).2)).1)).2) = 0))) hE332 (y_move rfl) rfl rfl rfl ?_; intro a333 hE334; clear hE332
        rcases Bool.eq_false_or_eq_true (!decide (((F_ImageMask ((F_InverseRelation ((F_s_DrawImageMask code).1)).1) ((F_BoxMask ((F_InverseRelation ((F_s_DrawImageMask code).1)).1) ((F_s_DrawImageMask code).2)).1)).2) = 0)) with hb335 | hb335
        ·
         have hE336 := hE334; (try rw [hb335] at hE336); clear hE334
         have ht337 := bn_t hb335
         have hp338 := of_decide_eq_false ht337
         refine q_skip hE336 rfl rfl rfl ?_; intro a339 hE340; clear hE336
         refine q_skip hE340 rfl rfl rfl ?_; intro a341 hE342; clear hE340
         refine q_skip hE342 rfl rfl rfl ?_; intro a343 hE344; clear hE342
         refine q_skip hE344 rfl rfl rfl ?_; intro a345 hE346; clear hE344
         refine q_step (v := .bool true) hE346 (y_pick (b := true) rfl rfl) rfl rfl rfl ?_; intro a347 hE348; clear hE346
         refine q_step (v := .bool true) hE348 (y_move rfl) rfl rfl rfl ?_; intro a349 hE350; clear hE348
         refine q_skip hE350 rfl rfl rfl ?_; intro a351 hE352; clear hE350
         refine q_skip hE352 rfl rfl rfl ?_; intro a353 hE354; clear hE352
         refine q_skip hE354 rfl rfl rfl ?_; intro a355 hE356; clear hE354
         refine q_skip hE356 rfl rfl rfl ?_; intro a357 hE358; clear hE356
         refine q_skip hE358 rfl rfl rfl ?_; intro a359 hE360; clear hE358
         refine q_step (v := .bool true) hE360 (y_pick (b := true) rfl rfl) rfl rfl rfl ?_; intro a361 hE362; clear hE360
         refine c_nil ?_
         have hE363 := hE362.sub (L' := [(3, .slice b27 (((F_s_DrawImageMask code).1).length) c28), (117, .bool true)]) ⟨rfl, rfl, trivial⟩; clear hE362
         refine p_tn ?_
         refine c_true hE363 rfl ?_
         refine c_seq ?_
         refine c_reg ?_
         refine q_step (v := .bool false) hE363 (y_assign rfl) rfl rfl rfl ?_; intro a364 hE365; clear hE363
         refine c_nil ?_
         have hE366 := hE365.sub (L' := [(2, .bool false)]) ⟨rfl, trivial⟩; clear hE365
         refine p_tn ?_
         refine wp_ret ?_
         refine p_tr ?_
         have hF : F_l_FnRelations code = false := by unfold F_l_FnRelations; rw [hb335, ht297, hb265, ht137, ht122, hb94, ht13]; first | done | rfl
         refine c_ret1 hE366 rfl rfl ?_
         exact ⟨(by rw [hF]; first | done | (dsimp only; done) | rfl), hS315.ext⟩
        ·
         have hE367 := hE334; (try rw [hb335] at hE367); clear hE334
         have ht368 := bn_f hb335
         have hp369 := of_decide_eq_true ht368
         refine q_step (v := .int .i64 ((F_ImageMask ((F_InverseRelation ((F_s_DrawImageMask code).1)).1) ((F_BoxMask ((F_InverseRelation ((F_s_DrawImageMask code).1)).1) ((F_s_DrawImageMask code).2)).1)).1)) hE367 (y_move rfl) rfl rfl rfl ?_; intro a370 hE371; clear hE367
         refine q_step (v := .int .i64 ((F_s_DrawImageMask code).2)) hE371 (y_move rfl) rfl rfl rfl ?_; intro a372 hE373; clear hE371
         refine q_step (v := .int .i64 (anI ((F_ImageMask ((F_InverseRelation ((F_s_DrawImageMask code).1)).1) ((F_BoxMask ((F_InverseRelation ((F_s_DrawImageMask code).1)).1) ((F_s_DrawImageMask code).2)).1)).1) ((F_s_DrawImageMask code).2))) hE373 (y_andNot rfl rfl) rfl rfl rfl ?_; intro a374 hE375; clear hE373
         refine q_step (v := .bool (!decide ((anI ((F_ImageMask ((F_InverseRelation ((F_s_DrawImageMask code).1)).1) ((F_BoxMask ((F_InverseRelation ((F_s_DrawImageMask code).1)).1) ((F_s_DrawImageMask code).2)).1)).1) ((F_s_DrawImageMask code).2)) = 0))) hE375 (y_neq rfl rfl) rfl rfl rfl ?_; intro a376 hE377; clear hE375
         refine q_step (v := .bool (!decide ((anI ((F_ImageMask ((F_InverseRelation ((F_s_DrawImageMask code).1)).1) ((F_BoxMask ((F_InverseRelation ((F_s_DrawImageMask code).1)).1) ((F_s_DrawImageMask code).2)).1)).1) ((F_s_DrawImageMask code).2)) = 0))) hE377 (y_pick (b := false) rfl rfl) rfl rfl rfl ?_; intro a378 hE379; clear hE377
         refine q_step (v := .bool (!decide ((anI ((F_ImageMask ((F_InverseRelation ((F_s_DrawImageMask code).1)).1) ((F_BoxMask ((F_InverseRelation ((F_s_DrawImageMask code).1)).1) ((F_s_DrawImageMask code).2)).1)).1) ((F_s_DrawImageMask code).2)) = 0))) hE379 (y_move rfl) rfl rfl rfl ?_; intro a380 hE381; clear hE379
         rcases Bool.eq_false_or_eq_true (!decide ((anI ((F_ImageMask ((F_InverseRelation ((F_s_DrawImageMask code).1)).1) ((F_BoxMask ((F_InverseRelation ((F_s_DrawImageMask code).1)).1) ((F_s_DrawImageMask code).2)).1)).1) ((F_s_DrawImageMask code).2)) = 0)) with hb382 | hb382
         ·
          have hE383 := hE381; (try rw [hb382] at hE383); clear hE381
          have ht384 := bn_t hb382
          have hp385 := of_decide_eq_false ht384
          refine q_skip hE383 rfl rfl rfl ?_; intro a386 hE387; clear hE383
          refine q_skip hE387 rfl rfl rfl ?_; intro a388 hE389; clear hE387
          refine q_skip hE389 rfl rfl rfl ?_; intro a390 hE391; clear hE389
          refine q_skip hE391 rfl rfl rfl ?_; intro a392 hE393; clear hE391
          refine q_skip hE393 rfl rfl rfl ?_; intro a394 hE395; clear hE393
          refine q_step (v := .bool true) hE395 (y_pick (b := true) rfl rfl) rfl rfl rfl ?_; intro a396 hE397; clear hE395
          refine c_nil ?_
          have hE398 := hE397.sub (L' := [(3, .slice b27 (((F_s_DrawImageMask code).1).length) c28), (117, .bool true)]) ⟨rfl, rfl, trivial⟩; clear hE397
          refine p_tn ?_
          refine c_true hE398 rfl ?_
          refine c_seq ?_
          refine c_reg ?_
          refine q_step (v := .bool false) hE398 (y_assign rfl) rfl rfl rfl ?_; intro a399 hE400; clear hE398
          refine c_nil ?_
          have hE401 := hE400.sub (L' := [(2, .bool false)]) ⟨rfl, trivial⟩; clear hE400
          refine p_tn ?_
          refine wp_ret ?_
          refine p_tr ?_
          have hF : F_l_FnRelations code = false := by unfold F_l_FnRelations; rw [hb382, hb335, ht297, hb265, ht137, ht122, hb94, ht13]; first | done | rfl
          refine c_ret1 hE401 rfl rfl ?_
          exact ⟨(by rw [hF]; first | done | (dsimp only; done) | rfl), hS315.ext⟩
         ·
          have hE402 := hE381; (try rw [hb382] at hE402); clear hE381
          have ht403 := bn_f hb382
          have hp404 := of_decide_eq_true ht403
          refine q_step (v := .int .i64 ((F_ImageMask ((F_s_DrawImageMask code).1) ((F_BoxMask ((F_InverseRelation ((F_s_DrawImageMask code).1)).1) ((F_s_DrawImageMask code).2)).1)).1)) hE402 (y_move rfl) rfl rfl rfl ?_; intro a405 hE406; clear hE402
          refine q_step (v := .int .i64 (((F_s_DrawImageMask code).1).length : Int)) hE406 (y_move rfl) rfl rfl rfl ?_; intro a407 hE408; clear hE406
          refine l_step hE408 rfl (l_call (f := 64) (argv := [.int .i64 (((F_s_DrawImageMask code).1).length : Int)]) hE408 (fun _ => cf_l_full9 _ _) rfl rfl (c_l_full9 (((F_s_DrawImageMask code).1).length : Int) w312) ?_)
          rintro _ _ ⟨rfl, rfl⟩ a411 hE412; clear hE408
          refine q_step (v := .int .i64 (anI ((F_ImageMask ((F_s_DrawImageMask code).1) ((F_BoxMask ((F_InverseRelation ((F_s_DrawImageMask code).1)).1) ((F_s_DrawImageMask code).2)).1)).1) (F_l_full9 (((F_s_DrawImageMask code).1).length : Int)))) hE412 (y_andNot rfl rfl) rfl rfl rfl ?_; intro a415 hE416; clear hE412
          refine q_step (v := .bool (!decide ((anI ((F_ImageMask ((F_s_DrawImageMask code).1) ((F_BoxMask ((F_InverseRelation ((F_s_DrawImageMask code).1)).1) ((F_s_DrawImageMask code).2)).1)).1) (F_l_full9 (((F_s_DrawImageMask code).1).length : Int))) = 0))) hE416 (y_neq rfl rfl) rfl rfl rfl ?_; intro a417 hE418; clear hE416
          refine q_step (v := .bool (!decide ((anI ((F_ImageMask ((F_s_DrawImageMask code).1) ((F_BoxMask ((F_InverseRelation ((F_s_DrawImageMask code).1)).1) ((F_s_DrawImageMask code).2)).1)).1) (F_l_full9 (((F_s_DrawImageMask code).1).length : Int))) = 0))) hE418 (y_pick (b := false) rfl rfl) rfl rfl rfl ?_; intro a419 hE420; clear hE418
          refine c_nil ?_
          have hE421 := hE420.sub (L' := [(3, .slice b27 (((F_s_DrawImageMask code).1).length) c28), (117, .bool (!decide ((anI ((F_ImageMask ((F_s_DrawImageMask code).1) ((F_BoxMask ((F_InverseRelation ((F_s_DrawImageMask code).1)).1) ((F_s_DrawImageMask code).2)).1)).1) (F_l_full9 (((F_s_DrawImageMask code).1).length : Int))) = 0)))]) ⟨rfl, rfl, trivial⟩; clear hE420
          refine p_tn ?_
          refine c_cond hE421 rfl (fun ht422 => ?_) (fun ht422 => ?_)
          ·
           have ht423 := bn_t ht422
           have hp424 := of_decide_eq_false ht423
           have hE425 := hE421; rw [ht422] at hE425; clear hE421
           refine c_seq ?_
           refine c_reg ?_
           refine q_step (v := .bool false) hE425 (y_assign rfl) rfl rfl rfl ?_; intro a426 hE427; clear hE425
           refine c_nil ?_
           have hE428 := hE427.sub (L' := [(2, .bool false)]) ⟨rfl, trivial⟩; clear hE427
           refine p_tn ?_
           refine wp_ret ?_
           refine p_tr ?_
           have hF : F_l_FnRelations code = false := by unfold F_l_FnRelations; rw [ht422, hb382, hb335, ht297, hb265, ht137, ht122, hb94, ht13]; first | done | rfl
           refine c_ret1 hE428 rfl rfl ?_
           exact ⟨(by rw [hF]; first | done | (dsimp only; done) | rfl), hS315.ext⟩
          ·
           have ht429 := bn_f ht422
           have hp430 := of_decide_eq_true ht429
           have hE431 := hE421; rw [ht422] at hE431; clear hE421
           refine wp_skip ?_
           refine p_tn ?_
           refine c_seq ?_
           refine c_reg ?_
           refine q_step (v := .slice b27 (((F_s_DrawImageMask code).1).length) c28) hE431 (y_move rfl) rfl rfl rfl ?_; intro a432 hE433; clear hE431
           refine l_step hE433 rfl (l_call (f := 65) (argv := [.slice b27 (((F_s_DrawImageMask code).1).length) c28]) hE433 (fun _ => cf_TransitiveClosure _ _) rfl rfl (c_TransitiveClosure b27 (((F_s_DrawImageMask code).1).length) c28 ((F_s_DrawImageMask code).1) w312 (St.rdO (i := 1) hS315 rfl) (by first | omega | (simp only [marked_len]; omega) | (simp only [marked_len] at *; omega))) ?_)
           rintro _ w435 ⟨b440, c441, rfl, ho442, he439⟩ a436 hE437; clear hE433
           have hf443 := TransitiveClosure_cd ((F_s_DrawImageMask code).1)
           have hS438 := St.own hS315 he439 ho442; clear hS315
           refine q_step (v := .tuple #[.slice b440 (((F_TransitiveClosure ((F_s_DrawImageMask code).1)).1).length) c441, .int .i64 ((F_TransitiveClosure ((F_s_DrawImageMask code).1)).2)]) hE437 (y_move rfl) rfl rfl rfl ?_; intro a444 hE445; clear hE437
           refine q_step (v := .slice b440 (((F_TransitiveClosure ((F_s_DrawImageMask code).1)).1).length) c441) hE445 (y_extract rfl rfl) rfl rfl rfl ?_; intro a446 hE447; clear hE445
           refine q_step (v := .int .i64 ((F_TransitiveClosure ((F_s_DrawImageMask code).1)).2)) hE447 (y_extract rfl rfl) rfl rfl rfl ?_; intro a448 hE449; clear hE447
           refine q_step (v := .slice b440 (((F_TransitiveClosure ((F_s_DrawImageMask code).1)).1).length) c441) hE449 (y_assign rfl) rfl rfl rfl ?_; intro a450 hE451; clear hE449
           refine q_step (v := .int .i64 ((F_TransitiveClosure ((F_s_DrawImageMask code).1)).2)) hE451 (y_assign rfl) rfl rfl rfl ?_; intro a452 hE453; clear hE451
           refine c_nil ?_
           have hE454 := hE453.sub (L' := [(3, .slice b27 (((F_s_DrawImageMask code).1).length) c28), (20, .slice b440 (((F_TransitiveClosure ((F_s_DrawImageMask code).1)).1).length) c441), (21, .int .i64 ((F_TransitiveClosure ((F_s_DrawImageMask code).1)).2))]) ⟨rfl, rfl, rfl, trivial⟩; clear hE453
           refine p_tn ?_
           refine c_seq ?_
           refine c_reg ?_
           refine q_step (v := .slice b440 (((F_TransitiveClosure ((F_s_DrawImageMask code).1)).1).length) c441) hE454 (y_move rfl) rfl rfl rfl ?_; intro a455 hE456; clear hE454
           refine q_step (v := .slice b440 (((F_TransitiveClosure ((F_s_DrawImageMask code).1)).1).length) c441) hE456 (y_move rfl) rfl rfl rfl ?_; intro a457 hE458; clear hE456
           refine l_step hE458 rfl (l_call (f := 66) (argv := [.slice b440 (((F_TransitiveClosure ((F_s_DrawImageMask code).1)).1).length) c441, .slice b440 (((F_TransitiveClosure ((F_s_DrawImageMask code).1)).1).length) c441]) hE458 (fun _ => cf_ComposeRelations _ _) rfl rfl (c_ComposeRelations b440 (((F_TransitiveClosure ((F_s_DrawImageMask code).1)).1).length) c441 ((F_TransitiveClosure ((F_s_DrawImageMask code).1)).1) b440 (((F_TransitiveClosure ((F_s_DrawImageMask code).1)).1).length) c441 ((F_TransitiveClosure ((F_s_DrawImageMask code).1)).1) w435 (St.rdO (i := 0) hS438 rfl) (St.rdO (i := 0) hS438 rfl)) ?_)
           rintro _ w460 ⟨b465, c466, rfl, ho467, he464⟩ a461 hE462; clear hE458
           have hf468 := ComposeRelations_len ((F_TransitiveClosure ((F_s_DrawImageMask code).1)).1) ((F_TransitiveClosure ((F_s_DrawImageMask code).1)).1)
           have hf469 := ComposeRelations_cd ((F_TransitiveClosure ((F_s_DrawImageMask code).1)).1) ((F_TransitiveClosure ((F_s_DrawImageMask code).1)).1)
           have hS463 := St.own hS438 he464 ho467; clear hS438
           refine q_step (v := .tuple #[.slice b465 (((F_ComposeRelations ((F_TransitiveClosure ((F_s_DrawImageMask code).1)).1) ((F_TransitiveClosure ((F_s_DrawImageMask code).1)).1)).1).length) c466, .int .i64 ((F_ComposeRelations ((F_TransitiveClosure ((F_s_DrawImageMask code).1)).1) ((F_TransitiveClosure ((F_s_DrawImageMask code).1)).1)).2)]) hE462 (y_move rfl) rfl rfl rfl ?_; intro a470 hE471; clear hE462
           refine q_step (v := .slice b465 (((F_ComposeRelations ((F_TransitiveClosure ((F_s_DrawImageMask code).1)).1) ((F_TransitiveClosure ((F_s_DrawImageMask code).1)).1)).1).length) c466) hE471 (y_extract rfl rfl) rfl rfl rfl ?_; intro a472 hE473; clear hE471
           refine q_step (v := .int .i64 ((F_ComposeRelations ((F_TransitiveClosure ((F_s_DrawImageMask code).1)).1) ((F_TransitiveClosure ((F_s_DrawImageMask code).1)).1)).2)) hE473 (y_extract rfl rfl) rfl rfl rfl ?_; intro a474 hE475; clear hE473
           refine q_step (v := .slice b465 (((F_ComposeRelations ((F_TransitiveClosure ((F_s_DrawImageMask code).1)).1) ((F_TransitiveClosure ((F_s_DrawImageMask code).1)).1)).1).length) c466) hE475 (y_assign rfl) rfl rfl rfl ?_; intro a476 hE477; clear hE475
           refine q_step (v := .int .i64 ((F_ComposeRelations ((F_TransitiveClosure ((F_s_DrawImageMask code).1)).1) ((F_TransitiveClosure ((F_s_DrawImageMask code).1)).1)).2)) hE477 (y_assign rfl) rfl rfl rfl ?_; intro a478 hE479; clear hE477
           refine c_nil ?_
           have hE480 := hE479.sub (L' := [(3, .slice b27 (((F_s_DrawImageMask code).1).length) c28), (20, .slice b440 (((F_TransitiveClosure ((F_s_DrawImageMask code).1)).1).length) c441), (21, .int .i64 ((F_TransitiveClosure ((F_s_DrawImageMask code).1)).2)), (22, .slice b465 (((F_ComposeRelations ((F_TransitiveClosure ((F_s_DrawImageMask code).1)).1) ((F_TransitiveClosure ((F_s_DrawImageMask code).1)).1)).1).length) c466), (23, .int .i64 ((F_ComposeRelations ((F_TransitiveClosure ((F_s_DrawImageMask code).1)).1) ((F_TransitiveClosure ((F_s_DrawImageMask code).1)).1)).2))]) ⟨rfl, rfl, rfl, rfl, rfl, trivial⟩; clear hE479
           refine p_tn ?_
           refine c_seq ?_
           refine c_reg ?_
           refine q_step (v := .slice b27 (((F_s_DrawImageMask code).1).length) c28) hE480 (y_move rfl) rfl rfl rfl ?_; intro a481 hE482; clear hE480
           refine q_step (v := .slice b440 (((F_TransitiveClosure ((F_s_DrawImageMask code).1)).1).length) c441) hE482 (y_move rfl) rfl rfl rfl ?_; intro a483 hE484; clear hE482
           refine l_step hE484 rfl (l_call (f := 66) (argv := [.slice b27 (((F_s_DrawImageMask code).1).length) c28, .slice b440 (((F_TransitiveClosure ((F_s_DrawImageMask code).1)).1).length) c441]) hE484 (fun _ => cf_ComposeRelations _ _) rfl rfl (c_ComposeRelations b27 (((F_s_DrawImageMask code).1).length) c28 ((F_s_DrawImageMask code).1) b440 (((F_TransitiveClosure ((F_s_DrawImageMask code).1)).1).length) c441 ((F_TransitiveClosure ((F_s_DrawImageMask code).1)).1) w460 (St.rdO (i := 3) hS463 rfl) (St.rdO (i := 1) hS463 rfl)) ?_)
           rintro _ w486 ⟨b491, c492, rfl, ho493, he490⟩ a487 hE488; clear hE484
           have hf494 := ComposeRelations_len ((F_s_DrawImageMask code).1) ((F_TransitiveClosure ((F_s_DrawImageMask code).1)).1)
           have hf495 := ComposeRelations_cd ((F_s_DrawImageMask code).1) ((F_TransitiveClosure ((F_s_DrawImageMask code).1)).1)
           have hS489 := St.own hS463 he490 ho493; clear hS463
           refine q_step (v := .tuple #[.slice b491 (((F_ComposeRelations ((F_s_DrawImageMask code).1) ((F_TransitiveClosure ((F_s_DrawImageMask code).1)).1)).1).length) c492, .int .i64 ((F_ComposeRelations ((F_s_DrawImageMask code).1) ((F_TransitiveClosure ((F_s_DrawImageMask code).1)).1)).2)]) hE488 (y_move rfl) rfl rfl rfl ?_; intro a496 hE497; clear hE488
           refine q_step (v := .slice b491 (((F_ComposeRelations ((F_s_DrawImageMask code).1) ((F_TransitiveClosure ((F_s_DrawImageMask code).1)).1)).1).length) c492) hE497 (y_extract rfl rfl) rfl rfl rfl ?_; intro a498 hE499; clear hE497
           refine q_step (v := .int .i64 ((F_ComposeRelations ((F_s_DrawImageMask code).1) ((F_TransitiveClosure ((F_s_DrawImageMask code).1)).1)).2)) hE499 (y_extract rfl rfl) rfl rfl rfl ?_; intro a500 hE501; clear hE499
           refine q_step (v := .slice b491 (((F_ComposeRelations ((F_s_DrawImageMask code).1) ((F_TransitiveClosure ((F_s_DrawImageMask code).1)).1)).1).length) c492) hE501 (y_assign rfl) rfl rfl rfl ?_; intro a502 hE503; clear hE501
           refine q_step (v := .int .i64 ((F_ComposeRelations ((F_s_DrawImageMask code).1) ((F_TransitiveClosure ((F_s_DrawImageMask code).1)).1)).2)) hE503 (y_assign rfl) rfl rfl rfl ?_; intro a504 hE505; clear hE503
           refine c_nil ?_
           have hE506 := hE505.sub (L' := [(3, .slice b27 (((F_s_DrawImageMask code).1).length) c28), (20, .slice b440 (((F_TransitiveClosure ((F_s_DrawImageMask code).1)).1).length) c441), (21, .int .i64 ((F_TransitiveClosure ((F_s_DrawImageMask code).1)).2)), (22, .slice b465 (((F_ComposeRelations ((F_TransitiveClosure ((F_s_DrawImageMask code).1)).1) ((F_TransitiveClosure ((F_s_DrawImageMask code).1)).1)).1).length) c466), (23, .int .i64 ((F_ComposeRelations ((F_TransitiveClosure ((F_s_DrawImageMask code).1)).1) ((F_TransitiveClosure ((F_s_DrawImageMask code).1)).1)).2)), (24, .slice b491 (((F_ComposeRelations ((F_s_DrawImageMask code).1) ((F_TransitiveClosure ((F_s_DrawImageMask code).1)).1)).1).length) c492), (25, .int .i64 ((F_ComposeRelations ((F_s_DrawImageMask code).1) ((F_TransitiveClosure ((F_s_DrawImageMask code).1)).1)).2))]) ⟨rfl, rfl, rfl, rfl, rfl, rfl, rfl, trivial⟩; clear hE505
           refine p_tn ?_
           refine c_seq ?_
           refine c_seq ?_
           refine c_reg ?_
           refine q_step (v := .int .i64 ((F_TransitiveClosure ((F_s_DrawImageMask code).1)).2)) hE506 (y_move rfl) rfl rfl rfl ?_; intro a507 hE508; clear hE506
           refine q_step (v := .int .i64 ((F_ComposeRelations ((F_TransitiveClosure ((F_s_DrawImageMask code).1)).1) ((F_TransitiveClosure ((F_s_DrawImageMask code).1)).1)).2)) hE508 (y_move rfl) rfl rfl rfl ?_; intro a509 hE510; clear hE508
           refine q_step (v := .int .i64 (((F_TransitiveClosure ((F_s_DrawImageMask code).1)).2) + ((F_ComposeRelations ((F_TransitiveClosure ((F_s_DrawImageMask code).1)).1) ((F_TransitiveClosure ((F_s_DrawImageMask code).1)).1)).2))) hE510 (y_add rfl rfl ⟨(by first | omega | (simp only [marked_len]; omega) | (simp only [marked_len] at *; omega)), (by first | omega | (simp only [marked_len]; omega) | (simp only [marked_len] at *; omega))⟩) rfl rfl rfl ?_; intro a511 hE512; clear hE510
           refine q_step (v := .int .i64 ((F_ComposeRelations ((F_s_DrawImageMask code).1) ((F_TransitiveClosure ((F_s_DrawImageMask code).1)).1)).2)) hE512 (y_move rfl) rfl rfl rfl ?_; intro a513 hE514; clear hE512
           refine q_step (v := .int .i64 ((((F_TransitiveClosure ((F_s_DrawImageMask code).1)).2) + ((F_ComposeRelations ((F_TransitiveClosure ((F_s_DrawImageMask code).1)).1) ((F_TransitiveClosure ((F_s_DrawImageMask code).1)).1)).2)) + ((F_ComposeRelations ((F_s_DrawImageMask code).1) ((F_TransitiveClosure ((F_s_DrawImageMask code).1)).1)).2))) hE514 (y_add rfl rfl ⟨(by first | omega | (simp only [marked_len]; omega) | (simp only [marked_len] at *; omega)), (by first | omega | (simp only [marked_len]; omega) | (simp only [marked_len] at *; omega))⟩) rfl rfl rfl ?_; intro a515 hE516; clear hE514
           refine q_step (v := .bool (!decide (((((F_TransitiveClosure ((F_s_DrawImageMask code).1)).2) + ((F_ComposeRelations ((F_TransitiveClosure ((F_s_DrawImageMask code).1)).1) ((F_TransitiveClosure ((F_s_DrawImageMask code).1)).1)).2)) + ((F_ComposeRelations ((F_s_DrawImageMask code).1) ((F_TransitiveClosure ((F_s_DrawImageMask code).1)).1)).2)) = 0))) hE516 (y_neq rfl rfl) rfl rfl rfl ?_; intro a517 hE518; clear hE516
           refine q_step (v := .bool (!decide (((((F_TransitiveClosure ((F_s_DrawImageMask code).1)).2) + ((F_ComposeRelations ((F_TransitiveClosure ((F_s_DrawImageMask code).1)).1) ((F_TransitiveClosure ((F_s_DrawImageMask code).1)).1)).2)) + ((F_ComposeRelations ((F_s_DrawImageMask code).1) ((F_TransitiveClosure ((F_s_DrawImageMask code).1)).1)).2)) = 0))) hE518 (y_move rfl) rfl rfl rfl ?_; intro a519 hE520; clear hE518
           rcases Bool.eq_false_or_eq_true (!decide (((((F_TransitiveClosure ((F_s_DrawImageMask code).1)).2) + ((F_ComposeRelations ((F_TransitiveClosure ((F_s_DrawImageMask code).1)).1) ((F_TransitiveClosure ((F_s_DrawImageMask code).1)).1)).2)) + ((F_ComposeRelations ((F_s_DrawImageMask code).1) ((F_TransitiveClosure ((F_s_DrawImageMask code).1)).1)).2)) = 0)) with hb521 | hb521
           ·
            have hE522 := hE520; (try rw [hb521] at hE522); clear hE520
            have ht523 := bn_t hb521
            have hp524 := of_decide_eq_false ht523
            refine q_skip hE522 rfl rfl rfl ?_; intro a525 hE526; clear hE522
            refine q_skip hE526 rfl rfl rfl ?_; intro a527 hE528; clear hE526
            refine q_skip hE528 rfl rfl rfl ?_; intro a529 hE530; clear hE528
            refine q_skip hE530 rfl rfl rfl ?_; intro a531 hE532; clear hE530
            refine q_skip hE532 rfl rfl rfl ?_; intro a533 hE534; clear hE532
            refine q_step (v := .bool true) hE534 (y_pick (b := true) rfl rfl) rfl rfl rfl ?_; intro a535 hE536; clear hE534
            refine q_step (v := .bool true) hE536 (y_move rfl) rfl rfl rfl ?_; intro a537 hE538; clear hE536
            refine q_skip hE538 rfl rfl rfl ?_; intro a539 hE540; clear hE538
            refine q_skip hE540 rfl rfl rfl ?_; intro a541 hE542; clear hE540
            refine q_skip hE542 rfl rfl rfl ?_; intro a543 hE544; clear hE542
            refine q_skip hE544 rfl rfl rfl ?_; intro a545 hE546; clear hE544
            refine q_skip hE546 rfl rfl rfl ?_; intro a547 hE548; clear hE546
            refine q_step (v := .bool true) hE548 (y_pick (b := true) rfl rfl) rfl rfl rfl ?_; intro a549 hE550; clear hE548
            refine q_step (v := .bool true) hE550 (y_move rfl) rfl rfl rfl ?_; intro a551 hE552; clear hE550
            refine q_skip hE552 rfl rfl rfl ?_; intro a553 hE554; clear hE552
            refine q_skip hE554 rfl rfl rfl ?_; intro a555 hE556; clear hE554
            refine q_skip hE556 rfl rfl rfl ?_; intro a557 hE558; clear hE556
            refine q_skip hE558 rfl rfl rfl ?_; intro a559 hE560; clear hE558
            refine q_skip hE560 rfl rfl rfl ?_; intro a561 hE562; clear hE560
            refine q_step (v := .bool true) hE562 (y_pick (b := true) rfl rfl) rfl rfl rfl ?_; intro a563 hE564; clear hE562
            refine c_nil ?_
            have hE565 := hE564.sub (L' := [(3, .slice b27 (((F_s_DrawImageMask code).1).length) c28), (20, .slice b440 (((F_TransitiveClosure ((F_s_DrawImageMask code).1)).1).length) c441), (22, .slice b465 (((F_ComposeRelations ((F_TransitiveClosure ((F_s_DrawImageMask code).1)).1) ((F_TransitiveClosure ((F_s_DrawImageMask code).1)).1)).1).length) c466), (24, .slice b491 (((F_ComposeRelations ((F_s_DrawImageMask code).1) ((F_TransitiveClosure ((F_s_DrawImageMask code).1)).1)).1).length) c492), (161, .bool true)]) ⟨rfl, rfl, rfl, rfl, rfl, trivial⟩; clear hE564
            refine p_tn ?_
            refine c_true hE565 rfl ?_
            refine c_seq ?_
            refine c_reg ?_
            refine q_step (v := .bool false) hE565 (y_assign rfl) rfl rfl rfl ?_; intro a566 hE567; clear hE565
            refine c_nil ?_
            have hE568 := hE567.sub (L' := [(2, .bool false)]) ⟨rfl, trivial⟩; clear hE567
            refine p_tn ?_
            refine wp_ret ?_
            refine p_tr ?_
            have hF : F_l_FnRelations code = false := by unfold F_l_FnRelations; rw [hb521, ht422, hb382, hb335, ht297, hb265, ht137, ht122, hb94, ht13]; first | done | rfl
            refine c_ret1 hE568 rfl rfl ?_
            exact ⟨(by rw [hF]; first | done | (dsimp only; done) | rfl), hS489.ext⟩
           ·
            have hE569 := hE520; (try rw [hb521] at hE569); clear hE520
            have ht570 := bn_f hb521
            have hp571 := of_decide_eq_true ht570
            refine q_step (v := .slice b440 (((F_TransitiveClosure ((F_s_DrawImageMask code).1)).1).length) c441) hE569 (y_move rfl) rfl rfl rfl ?_; intro a572 hE573; clear hE569
            refine q_step (v := .int .i64 (((F_TransitiveClosure ((F_s_DrawImageMask code).1)).1).length : Int)) hE573 (y_len (e := 2) (by kernel_rfl) rfl) rfl rfl rfl ?_; intro a574 hE575; clear hE573
            refine q_step (v := .slice b27 (((F_s_DrawImageMask code).1).length) c28) hE575 (y_move rfl) rfl rfl rfl ?_; intro a576 hE577; clear hE575
            refine q_step (v := .int .i64 (((F_s_DrawImageMask code).1).length : Int)) hE577 (y_len (e := 2) (by kernel_rfl) rfl) rfl rfl rfl ?_; intro a578 hE579; clear hE577
            refine q_step (v := .bool (!decide ((((F_TransitiveClosure ((F_s_DrawImageMask code).1)).1).length : Int) = (((F_s_DrawImageMask code).1).length : Int)))) hE579 (y_neq rfl rfl) rfl rfl rfl ?_; intro a580 hE581; clear hE579
            refine q_step (v := .bool (!decide ((((F_TransitiveClosure ((F_s_DrawImageMask code).1)).1).length : Int) = (((F_s_DrawImageMask code).1).length : Int)))) hE581 (y_pick (b := false) rfl rfl) rfl rfl rfl ?_; intro a582 hE583; clear hE581
            refine q_step (v := .bool (!decide ((((F_TransitiveClosure ((F_s_DrawImageMask code).1)).1).length : Int) = (((F_s_DrawImageMask code).1).length : Int)))) hE583 (y_move rfl) rfl rfl rfl ?_; intro a584 hE585; clear hE583
            rcases Bool.eq_false_or_eq_true (!decide ((((F_TransitiveClosure ((F_s_DrawImageMask code).1)).1).length : Int) = (((F_s_DrawImageMask code).1).length : Int))) with hb586 | hb586
            ·
             have hE587 := hE585; (try rw [hb586] at hE587); clear hE585
             have ht588 := bn_t hb586
             have hp589 := of_decide_eq_false ht588
             refine q_skip hE587 rfl rfl rfl ?_; intro a590 hE591; clear hE587
             refine q_skip hE591 rfl rfl rfl ?_; intro a592 hE593; clear hE591
             refine q_skip hE593 rfl rfl rfl ?_; intro a594 hE595; clear hE593
             refine q_skip hE595 rfl rfl rfl ?_; intro a596 hE597; clear hE595
             refine q_skip hE597 rfl rfl rfl ?_; intro a598 hE599; clear hE597
             refine q_step (v := .bool true) hE599 (y_pick (b := true) rfl rfl) rfl rfl rfl ?_; intro a600 hE601; clear hE599
             refine q_step (v := .bool true) hE601 (y_move rfl) rfl rfl rfl ?_; intro a602 hE603; clear hE601
             refine q_skip hE603 rfl rfl rfl ?_; intro a604 hE605; clear hE603
             refine q_skip hE605 rfl rfl rfl ?_; intro a606 hE607; clear hE605
             refine q_skip hE607 rfl rfl rfl ?_; intro a608 hE609; clear hE607
             refine q_skip hE609 rfl rfl rfl ?_; intro a610 hE611; clear hE609
             refine q_skip hE611 rfl rfl rfl ?_; intro a612 hE613; clear hE611
             refine q_step (v := .bool true) hE613 (y_pick (b := true) rfl rfl) rfl rfl rfl ?_; intro a614 hE615; clear hE613
             refine c_nil ?_
             have hE616 := hE615.sub (L' := [(3, .slice b27 (((F_s_DrawImageMask code).1).length) c28), (20, .slice b440 (((F_TransitiveClosure ((F_s_DrawImageMask code).1)).1).length) c441), (22, .slice b465 (((F_ComposeRelations ((F_TransitiveClosure ((F_s_DrawImageMask code).1)).1) ((F_TransitiveClosure ((F_s_DrawImageMask code).1)).1)).1).length) c466), (24, .slice b491 (((F_ComposeRelations ((F_s_DrawImageMask code).1) ((F_TransitiveClosure ((F_s_DrawImageMask code).1)).1)).1).length) c492), (161, .bool true)]) ⟨rfl, rfl, rfl, rfl, rfl, trivial⟩; clear hE615
             refine p_tn ?_
             refine c_true hE616 rfl ?_
             refine c_seq ?_
             refine c_reg ?_
             refine q_step (v := .bool false) hE616 (y_assign rfl) rfl rfl rfl ?_; intro a617 hE618; clear hE616
             refine c_nil ?_
             have hE619 := hE618.sub (L' := [(2, .bool false)]) ⟨rfl, trivial⟩; clear hE618
             refine p_tn ?_
             refine wp_ret ?_
             refine p_tr ?_
             have hF : F_l_FnRelations code = false := by unfold F_l_FnRelations; rw [hb586, hb521, ht422, hb382, hb335, ht297, hb265, ht137, ht122, hb94, ht13]; first | done | rfl
             refine c_ret1 hE619 rfl rfl ?_
             exact ⟨(by rw [hF]; first | done | (dsimp only; done) | rfl), hS489.ext⟩
            ·
             have hE620 := hE585; (try rw [hb586] at hE620); clear hE585
             have ht621 := bn_f hb586
             have hp622 := of_decide_eq_true ht621
             refine q_step (v := .slice b465 (((F_ComposeRelations ((F_TransitiveClosure ((F_s_DrawImageMask code).1)).1) ((F_TransitiveClosure ((F_s_DrawImageMask code).1)).1)).1).length) c466) hE620 (y_move rfl) rfl rfl rfl ?_; intro a623 hE624; clear hE620
             refine q_step (v := .int .i64 (((F_ComposeRelations ((F_TransitiveClosure ((F_s_DrawImageMask code).1)).1) ((F_TransitiveClosure ((F_s_DrawImageMask code).1)).1)).1).length : Int)) hE624 (y_len (e := 2) (by kernel_rfl) rfl) rfl rfl rfl ?_; intro a625 hE626; clear hE624
             refine q_step (v := .slice b27 (((F_s_DrawImageMask code).1).length) c28) hE626 (y_move rfl) rfl rfl rfl ?_; intro a627 hE628; clear hE626
             refine q_step (v := .int .i64 (((F_s_DrawImageMask code).1).length : Int)) hE628 (y_len (e := 2) (by kernel_rfl) rfl) rfl rfl rfl ?_; intro a629 hE630; clear hE628
             refine q_step (v := .bool (!decide ((((F_ComposeRelations ((F_TransitiveClosure ((F_s_DrawImageMask code).1)).1) ((F_TransitiveClosure ((F_s_DrawImageMask code).1)).1)).1).length : Int) = (((F_s_DrawImageMask code).1).length : Int)))) hE630 (y_neq rfl rfl) rfl rfl rfl ?_; intro a631 hE632; clear hE630
             refine q_step (v := .bool (!decide ((((F_ComposeRelations ((F_TransitiveClosure ((F_s_DrawImageMask code).1)).1) ((F_TransitiveClosure ((F_s_DrawImageMask code).1)).1)).1).length : Int) = (((F_s_DrawImageMask code).1).length : Int)))) hE632 (y_pick (b := false) rfl rfl) rfl rfl rfl ?_; intro a633 hE634; clear hE632
             refine q_step (v := .bool (!decide ((((F_ComposeRelations ((F_TransitiveClosure ((F_s_DrawImageMask code).1)).1) ((F_TransitiveClosure ((F_s_DrawImageMask code).1)).1)).1).length : Int) = (((F_s_DrawImageMask code).1).length : Int)))) hE634 (y_move rfl) rfl rfl rfl ?_; intro a635 hE636; clear hE634
             rcases Bool.eq_false_or_eq_true (!decide ((((F_ComposeRelations ((F_TransitiveClosure ((F_s_DrawImageMask code).1)).1) ((F_TransitiveClosure ((F_s_DrawImageMask code).1)).1)).1).length : Int) = (((F_s_DrawImageMask code).1).length : Int))) with hb637 | hb637
             ·
              have hE638 := hE636; (try rw [hb637] at hE638); clear hE636
              have ht639 := bn_t hb637
              have hp640 := of_decide_eq_false ht639
              refine q_skip hE638 rfl rfl rfl ?_; intro a641 hE642; clear hE638
              refine q_skip hE642 rfl rfl rfl ?_; intro a643 hE644; clear hE642
              refine q_skip hE644 rfl rfl rfl ?_; intro a645 hE646; clear hE644
              refine q_skip hE646 rfl rfl rfl ?_; intro a647 hE648; clear hE646
              refine q_skip hE648 rfl rfl rfl ?_; intro a649 hE650; clear hE648
              refine q_step (v := .bool true) hE650 (y_pick (b := true) rfl rfl) rfl rfl rfl ?_; intro a651 hE652; clear hE650
              refine c_nil ?_
              have hE653 := hE652.sub (L' := [(3, .slice b27 (((F_s_DrawImageMask code).1).length) c28), (20, .slice b440 (((F_TransitiveClosure ((F_s_DrawImageMask code).1)).1).length) c441), (22, .slice b465 (((F_ComposeRelations ((F_TransitiveClosure ((F_s_DrawImageMask code).1)).1) ((F_TransitiveClosure ((F_s_DrawImageMask code).1)).1)).1).length) c466), (24, .slice b491 (((F_ComposeRelations ((F_s_DrawImageMask code).1) ((F_TransitiveClosure ((F_s_DrawImageMask code).1)).1)).1).length) c492), (161, .bool true)]) ⟨rfl, rfl, rfl, rfl, rfl, trivial⟩; clear hE652
              refine p_tn ?_
              refine c_true hE653 rfl ?_
              refine c_seq ?_
              refine c_reg ?_
              refine q_step (v := .bool false) hE653 (y_assign rfl) rfl rfl rfl ?_; intro a654 hE655; clear hE653
              refine c_nil ?_
              have hE656 := hE655.sub (L' := [(2, .bool false)]) ⟨rfl, trivial⟩; clear hE655
              refine p_tn ?_
              refine wp_ret ?_
              refine p_tr ?_
              have hF : F_l_FnRelations code = false := by unfold F_l_FnRelations; rw [hb637, hb586, hb521, ht422, hb382, hb335, ht297, hb265, ht137, ht122, hb94, ht13]; first | done | rfl
              refine c_ret1 hE656 rfl rfl ?_
              exact ⟨(by rw [hF]; first | done | (dsimp only; done) | rfl), hS489.ext⟩
             ·
              have hE657 := hE636; (try rw [hb637] at hE657); clear hE636
              have ht658 := bn_f hb637
              have hp659 := of_decide_eq_true ht658
              refine q_step (v := .slice b491 (((F_ComposeRelations ((F_s_DrawImageMask code).1) ((F_TransitiveClosure ((F_s_DrawImageMask code).1)).1)).1).length) c492) hE657 (y_move rfl) rfl rfl rfl ?_; intro a660 hE661; clear hE657
              refine q_step (v := .int .i64 (((F_ComposeRelations ((F_s_DrawImageMask code).1) ((F_TransitiveClosure ((F_s_DrawImageMask code).1)).1)).1).length : Int)) hE661 (y_len (e := 2) (by kernel_rfl) rfl) rfl rfl rfl ?_; intro a662 hE663; clear hE661
              refine q_step (v := .slice b27 (((F_s_DrawImageMask code).1).length) c28) hE663 (y_move rfl) rfl rfl rfl ?_; intro a664 hE665; clear hE663
              refine q_step (v := .int .i64 (((F_s_DrawImageMask code).1).length : Int)) hE665 (y_len (e := 2) (by kernel_rfl) rfl) rfl rfl rfl ?_; intro a666 hE667; clear hE665
              refine q_step (v := .bool (!decide ((((F_ComposeRelations ((F_s_DrawImageMask code).1) ((F_TransitiveClosure ((F_s_DrawImageMask code).1)).1)).1).length : Int) = (((F_s_DrawImageMask code).1).length : Int)))) hE667 (y_neq rfl rfl) rfl rfl rfl ?_; intro a668 hE669; clear hE667
              refine q_step (v := .bool (!decide ((((F_ComposeRelations ((F_s_DrawImageMask code).1) ((F_TransitiveClosure ((F_s_DrawImageMask code).1)).1)).1).length : Int) = (((F_s_DrawImageMask code).1).length : Int)))) hE669 (y_pick (b := false) rfl rfl) rfl rfl rfl ?_; intro a670 hE671; clear hE669
              refine c_nil ?_
              have hE672 := hE671.sub (L' := [(3, .slice b27 (((F_s_DrawImageMask code).1).length) c28), (20, .slice b440 (((F_TransitiveClosure ((F_s_DrawImageMask code).1)).1).length) c441), (22, .slice b465 (((F_ComposeRelations ((F_TransitiveClosure ((F_s_DrawImageMask code).1)).1) ((F_TransitiveClosure ((F_s_DrawImageMask code).1)).1)).1).length) c466), (24, .slice b491 (((F_ComposeRelations ((F_s_DrawImageMask code).1) ((F_TransitiveClosure ((F_s_DrawImageMask code).1)).1)).1).length) c492), (161, .bool (!decide ((((F_ComposeRelations ((F_s_DrawImageMask code).1) ((F_TransitiveClosure ((F_s_DrawImageMask code).1)).1)).1).length : Int) = (((F_s_DrawImageMask code).1).length : Int))))]) ⟨rfl, rfl, rfl, rfl, rfl, trivial⟩; clear hE671
              refine p_tn ?_
              refine c_cond hE672 rfl (fun ht673 => ?_) (fun ht673 => ?_)
              ·
               have ht674 := bn_t ht673
               have hp675 := of_decide_eq_false ht674
               have hE676 := hE672; rw [ht673] at hE676; clear hE672
               refine c_seq ?_
               refine c_reg ?_
               refine q_step (v := .bool false) hE676 (y_assign rfl) rfl rfl rfl ?_; intro a677 hE678; clear hE676
               refine c_nil ?_
               have hE679 := hE678.sub (L' := [(2, .bool false)]) ⟨rfl, trivial⟩; clear hE678
               refine p_tn ?_
               refine wp_ret ?_
               refine p_tr ?_
               have hF : F_l_FnRelations code = false := by unfold F_l_FnRelations; rw [ht673, hb637, hb586, hb521, ht422, hb382, hb335, ht297, hb265, ht137, ht122, hb94, ht13]; first | done | rfl
               refine c_ret1 hE679 rfl rfl ?_
               exact ⟨(by rw [hF]; first | done | (dsimp only; done) | rfl), hS489.ext⟩
              ·
               have ht680 := bn_f ht673
               have hp681 := of_decide_eq_true ht680
               have hE682 := hE672; rw [ht673] at hE682; clear hE672
               refine wp_skip ?_
               refine p_tn ?_
               refine c_seq ?_
               refine c_seq ?_
               refine c_reg ?_
               refine q_step (v := .int .i64 0) hE682 (y_assign rfl) rfl rfl rfl ?_; intro a683 hE684; clear hE682
               refine c_nil ?_
               have hE685 := hE684.sub (L' := [(3, .slice b27 (((F_s_DrawImageMask code).1).length) c28), (20, .slice b440 (((F_TransitiveClosure ((F_s_DrawImageMask code).1)).1).length) c441), (22, .slice b465 (((F_ComposeRelations ((F_TransitiveClosure ((F_s_DrawImageMask code).1)).1) ((F_TransitiveClosure ((F_s_DrawImageMask code).1)).1)).1).length) c466), (24, .slice b491 (((F_ComposeRelations ((F_s_DrawImageMask code).1) ((F_TransitiveClosure ((F_s_DrawImageMask code).1)).1)).1).length) c492), (26, .int .i64 0)]) ⟨rfl, rfl, rfl, rfl, rfl, trivial⟩; clear hE684
               refine p_tn ?_
               refine c_cut1 (fun a' w' => isOk (F_l_FnRelations_L1 code (Int.toNat ((((F_s_DrawImageMask code).1).length : Int) - 0) + 1) 0) = true ∧ (0 ≤ (okD (F_l_FnRelations_L1 code (Int.toNat ((((F_s_DrawImageMask code).1).length : Int) - 0) + 1) 0))) ∧ ((okD (F_l_FnRelations_L1 code (Int.toNat ((((F_s_DrawImageMask code).1).length : Int) - 0) + 1) 0)) ≤ (((F_s_DrawImageMask code).1).length : Int)) ∧ E a' 194 [(3, .slice b27 (((F_s_DrawImageMask code).1).length) c28), (20, .slice b440 (((F_TransitiveClosure ((F_s_DrawImageMask code).1)).1).length) c441), (22, .slice b465 (((F_ComposeRelations ((F_TransitiveClosure ((F_s_DrawImageMask code).1)).1) ((F_TransitiveClosure ((F_s_DrawImageMask code).1)).1)).1).length) c466), (24, .slice b491 (((F_ComposeRelations ((F_s_DrawImageMask code).1) ((F_TransitiveClosure ((F_s_DrawImageMask code).1)).1)).1).length) c492), (26, .int .i64 (okD (F_l_FnRelations_L1 code (Int.toNat ((((F_s_DrawImageMask code).1).length : Int) - 0) + 1) 0)))] ∧ St w w' [.own 2 1 b491 (((F_ComposeRelations ((F_s_DrawImageMask code).1) ((F_TransitiveClosure ((F_s_DrawImageMask code).1)).1)).1).length) c492 ((F_ComposeRelations ((F_s_DrawImageMask code).1) ((F_TransitiveClosure ((F_s_DrawImageMask code).1)).1)).1), .own 2 1 b465 (((F_ComposeRelations ((F_TransitiveClosure ((F_s_DrawImageMask code).1)).1) ((F_TransitiveClosure ((F_s_DrawImageMask code).1)).1)).1).length) c466 ((F_ComposeRelations ((F_TransitiveClosure ((F_s_DrawImageMask code).1)).1) ((F_TransitiveClosure ((F_s_DrawImageMask code).1)).1)).1), .own 2 1 b440 (((F_TransitiveClosure ((F_s_DrawImageMask code).1)).1).length) c441 ((F_TransitiveClosure ((F_s_DrawImageMask code).1)).1), .own 2 1 b166 (((F_InverseRelation ((F_s_DrawImageMask code).1)).1).length) c167 ((F_InverseRelation ((F_s_DrawImageMask code).1)).1), .own 2 1 b27 (((F_s_DrawImageMask code).1).length) c28 ((F_s_DrawImageMask code).1)]) ?_ ?_
               ·
                refine wp_block ?_
                refine c_loop (fun r a' w' => ∃ i26 : Int, F_l_FnRelations_L1 code r i26 = F_l_FnRelations_L1 code (Int.toNat ((((F_s_DrawImageMask code).1).length : Int) - 0) + 1) 0 ∧ Int.toNat ((((F_s_DrawImageMask code).1).length : Int) - i26) < r ∧ (0 ≤ i26) ∧ (i26 ≤ (((F_s_DrawImageMask code).1).length : Int)) ∧ E a' 194 [(3, .slice b27 (((F_s_DrawImageMask code).1).length) c28), (20, .slice b440 (((F_TransitiveClosure ((F_s_DrawImageMask code).1)).1).length) c441), (22, .slice b465 (((F_ComposeRelations ((F_TransitiveClosure ((F_s_DrawImageMask code).1)).1) ((F_TransitiveClosure ((F_s_DrawImageMask code).1)).1)).1).length) c466), (24, .slice b491 (((F_ComposeRelations ((F_s_DrawImageMask code).1) ((F_TransitiveClosure ((F_s_DrawImageMask code).1)).1)).1).length) c492), (26, .int .i64 i26)] ∧ St w w' [.own 2 1 b491 (((F_ComposeRelations ((F_s_DrawImageMask code).1) ((F_TransitiveClosure ((F_s_DrawImageMask code).1)).1)).1).length) c492 ((F_ComposeRelations ((F_s_DrawImageMask code).1) ((F_TransitiveClosure ((F_s_DrawImageMask code).1)).1)).1), .own 2 1 b465 (((F_ComposeRelations ((F_TransitiveClosure ((F_s_DrawImageMask code).1)).1) ((F_TransitiveClosure ((F_s_DrawImageMask code).1)).1)).1).length) c466 ((F_ComposeRelations ((F_TransitiveClosure ((F_s_DrawImageMask code).1)).1) ((F_TransitiveClosure ((F_s_DrawImageMask code).1)).1)).1), .own 2 1 b440 (((F_TransitiveClosure ((F_s_DrawImageMask code).1)).1).length) c441 ((F_TransitiveClosure ((F_s_DrawImageMask code).1)).1), .own 2 1 b166 (((F_InverseRelation ((F_s_DrawImageMask code).1)).1).length) c167 ((F_InverseRelation ((F_s_DrawImageMask code).1)).1), .own 2 1 b27 (((F_s_DrawImageMask code).1).length) c28 ((F_s_DrawImageMask code).1)]) (r := (Int.toNat ((((F_s_DrawImageMask code).1).length : Int) - 0) + 1)) ?_ ?_
                · exact ⟨0, rfl, Nat.lt_succ_self _, (by first | omega | (simp only [sS_len, sL_len]; omega) | (simp only [List.length_replicate, sI_len]; omega) | (simp only [List.length_append, List.length_cons, List.length_nil, sI_len, cond_true, cond_false]; omega) | (simp only [List.length_append, List.length_cons, List.length_nil, sI_len, cond_eq_ite, apply_ite List.length]; split <;> simp only [List.length_append, List.length_cons, List.length_nil, sI_len] <;> omega) | grind), (by first | omega | (simp only [sS_len, sL_len]; omega) | (simp only [List.length_replicate, sI_len]; omega) | (simp only [List.length_append, List.length_cons, List.length_nil, sI_len, cond_true, cond_false]; omega) | (simp only [List.length_append, List.length_cons, List.length_nil, sI_len, cond_eq_ite, apply_ite List.length]; split <;> simp only [List.length_append, List.length_cons, List.length_nil, sI_len] <;> omega) | grind), (hE685.sub (L' := [(3, .slice b27 (((F_s_DrawImageMask code).1).length) c28), (20, .slice b440 (((F_TransitiveClosure ((F_s_DrawImageMask code).1)).1).length) c441), (22, .slice b465 (((F_ComposeRelations ((F_TransitiveClosure ((F_s_DrawImageMask code).1)).1) ((F_TransitiveClosure ((F_s_DrawImageMask code).1)).1)).1).length) c466), (24, .slice b491 (((F_ComposeRelations ((F_s_DrawImageMask code).1) ((F_TransitiveClosure ((F_s_DrawImageMask code).1)).1)).1).length) c492), (26, .int .i64 0)]) ⟨rfl, rfl, rfl, rfl, rfl, trivial⟩), (St.pick (Γ' := [.own 2 1 b491 (((F_ComposeRelations ((F_s_DrawImageMask code).1) ((F_TransitiveClosure ((F_s_DrawImageMask code).1)).1)).1).length) c492 ((F_ComposeRelations ((F_s_DrawImageMask code).1) ((F_TransitiveClosure ((F_s_DrawImageMask code).1)).1)).1), .own 2 1 b465 (((F_ComposeRelations ((F_TransitiveClosure ((F_s_DrawImageMask code).1)).1) ((F_TransitiveClosure ((F_s_DrawImageMask code).1)).1)).1).length) c466 ((F_ComposeRelations ((F_TransitiveClosure ((F_s_DrawImageMask code).1)).1) ((F_TransitiveClosure ((F_s_DrawImageMask code).1)).1)).1), .own 2 1 b440 (((F_TransitiveClosure ((F_s_DrawImageMask code).1)).1).length) c441 ((F_TransitiveClosure ((F_s_DrawImageMask code).1)).1), .own 2 1 b166 (((F_InverseRelation ((F_s_DrawImageMask code).1)).1).length) c167 ((F_InverseRelation ((F_s_DrawImageMask code).1)).1), .own 2 1 b27 (((F_s_DrawImageMask code).1).length) c28 ((F_s_DrawImageMask code).1)]) hS489 [0, 1, 2, 3, 4] (by decide) rfl)⟩
                ·
                 clear hE685 hS489
                 rintro r695 a687 w688 ⟨i26, hT691, hr692, hi693, hi694, hE689, hS690⟩
                 obtain ⟨r695, rfl⟩ : ∃ r', r695 = r' + 1 := ⟨r695 - 1, by omega⟩
                 refine c_seq ?_
                 refine c_seq ?_
                 refine c_reg ?_
                 refine q_step (v := .int .i64 i26) hE689 (y_move rfl) rfl rfl rfl ?_; intro a696 hE697; clear hE689
                 refine q_step (v := .slice b27 (((F_s_DrawImageMask code).1).length) c28) hE697 (y_move rfl) rfl rfl rfl ?_; intro a698 hE699; clear hE697
                 refine q_step (v := .int .i64 (((F_s_DrawImageMask code).1).length : Int)) hE699 (y_len (e := 2) (by kernel_rfl) rfl) rfl rfl rfl ?_; intro a700 hE701; clear hE699
                 refine q_step (v := .bool (decide (i26 < (((F_s_DrawImageMask code).1).length : Int)))) hE701 (y_lss rfl rfl) rfl rfl rfl ?_; intro a702 hE703; clear hE701
                 refine c_nil ?_
                 have hE704 := hE703.sub (L' := [(3, .slice b27 (((F_s_DrawImageMask code).1).length) c28), (20, .slice b440 (((F_TransitiveClosure ((F_s_DrawImageMask code).1)).1).length) c441), (22, .slice b465 (((F_ComposeRelations ((F_TransitiveClosure ((F_s_DrawImageMask code).1)).1) ((F_TransitiveClosure ((F_s_DrawImageMask code).1)).1)).1).length) c466), (24, .slice b491 (((F_ComposeRelations ((F_s_DrawImageMask code).1) ((F_TransitiveClosure ((F_s_DrawImageMask code).1)).1)).1).length) c492), (26, .int .i64 i26), (165, .bool (decide (i26 < (((F_s_DrawImageMask code).1).length : Int))))]) ⟨rfl, rfl, rfl, rfl, rfl, rfl, trivial⟩; clear hE703
                 refine p_tn ?_
                 refine c_cond hE704 rfl (fun ht705 => ?_) (fun ht705 => ?_)
                 ·
                  have hp706 := of_decide_eq_true ht705
                  have hE707 := hE704; rw [ht705] at hE707; clear hE704
                  refine wp_skip ?_
                  refine p_tn ?_
                  refine c_seq ?_
                  refine wp_block ?_
                  refine c_seq ?_
                  refine d_start (fun w w' => (fun w' => w'.cell? (adr b440 (Int.toNat i26)) = some (.int .i64 (gI ((F_TransitiveClosure ((F_s_DrawImageMask code).1)).1) i26)) ∧ w'.cell? (adr b27 (Int.toNat i26)) = some (.int .i64 (gI ((F_s_DrawImageMask code).1) i26)) ∧ w'.cell? (adr b491 (Int.toNat i26)) = some (.int .i64 (gI ((F_ComposeRelations ((F_s_DrawImageMask code).1) ((F_TransitiveClosure ((F_s_DrawImageMask code).1)).1)).1) i26)) ∧ w'.cell? (adr b465 (Int.toNat i26)) = some (.int .i64 (gI ((F_ComposeRelations ((F_TransitiveClosure ((F_s_DrawImageMask code).1)).1) ((F_TransitiveClosure ((F_s_DrawImageMask code).1)).1)).1) i26)) ∧ w'.cell? (adr b440 (Int.toNat i26)) = some (.int .i64 (gI ((F_TransitiveClosure ((F_s_DrawImageMask code).1)).1) i26)) ∧ True) w → (fun w' => w'.cell? (adr b440 (Int.toNat i26)) = some (.int .i64 (gI ((F_TransitiveClosure ((F_s_DrawImageMask code).1)).1) i26)) ∧ w'.cell? (adr b27 (Int.toNat i26)) = some (.int .i64 (gI ((F_s_DrawImageMask code).1) i26)) ∧ w'.cell? (adr b491 (Int.toNat i26)) = some (.int .i64 (gI ((F_ComposeRelations ((F_s_DrawImageMask code).1) ((F_TransitiveClosure ((F_s_DrawImageMask code).1)).1)).1) i26)) ∧ w'.cell? (adr b465 (Int.toNat i26)) = some (.int .i64 (gI ((F_ComposeRelations ((F_TransitiveClosure ((F_s_DrawImageMask code).1)).1) ((F_TransitiveClosure ((F_s_DrawImageMask code).1)).1)).1) i26)) ∧ w'.cell? (adr b440 (Int.toNat i26)) = some (.int .i64 (gI ((F_TransitiveClosure ((F_s_DrawImageMask code).1)).1) i26)) ∧ True) w') [3, 7, 11, 18, 22] 26 (by kernel_rfl) rfl ?_
                  intro w708 he709; have hS710 := St.go hS690 he709; clear hS690
                  refine d_pure (fun _ h => h) (v := .slice b440 (((F_TransitiveClosure ((F_s_DrawImageMask code).1)).1).length) c441) 0 rfl hE707 (y_move rfl) rfl (by kernel_rfl) (by kernel_rfl) (by kernel_rfl) rfl rfl (fun _ _ _ h => h) ?_; intro a711 hE712; clear hE707
                  refine d_pure (fun _ h => h) (v := .int .i64 i26) 1 rfl hE712 (y_move rfl) rfl (by kernel_rfl) (by kernel_rfl) (by kernel_rfl) rfl rfl (fun _ _ _ h => h) ?_; intro a713 hE714; clear hE712
                  refine d_pure (fun _ h => h) (v := .pointer (some (adr b440 (Int.toNat i26)))) 2 rfl hE714 (y_idx (by kernel_rfl) (fun _ => by kernel_rfl) rfl rfl (RdS.isS (m := i26) (St.rdO (i := 2) hS710 rfl) (by first | omega | (simp only [marked_len]; omega) | (simp only [marked_len] at *; omega)) (by first | omega | (simp only [marked_len]; omega) | (simp only [marked_len] at *; omega))) (by first | omega | (simp only [marked_len]; omega) | (simp only [marked_len] at *; omega)) (by first | omega | (simp only [marked_len]; omega) | (simp only [marked_len] at *; omega)) (Nat.mul_one _).symm) rfl (by kernel_rfl) (by kernel_rfl) (by kernel_rfl) rfl rfl (fun _ _ _ h => h) ?_; intro a715 hE716; clear hE714
                  refine d_take (fun _ h => h) (fun _ _ h k => h k) (v := .int .i64 (gI ((F_TransitiveClosure ((F_s_DrawImageMask code).1)).1) i26)) 3 rfl hE716 (S := fun w' => w'.cell? (adr b440 (Int.toNat i26)) = some (.int .i64 (gI ((F_TransitiveClosure ((F_s_DrawImageMask code).1)).1) i26)) ∧ w'.cell? (adr b27 (Int.toNat i26)) = some (.int .i64 (gI ((F_s_DrawImageMask code).1) i26)) ∧ w'.cell? (adr b491 (Int.toNat i26)) = some (.int .i64 (gI ((F_ComposeRelations ((F_s_DrawImageMask code).1) ((F_TransitiveClosure ((F_s_DrawImageMask code).1)).1)).1) i26)) ∧ w'.cell? (adr b465 (Int.toNat i26)) = some (.int .i64 (gI ((F_ComposeRelations ((F_TransitiveClosure ((F_s_DrawImageMask code).1)).1) ((F_TransitiveClosure ((F_s_DrawImageMask code).1)).1)).1) i26)) ∧ w'.cell? (adr b440 (Int.toNat i26)) = some (.int .i64 (gI ((F_TransitiveClosure ((F_s_DrawImageMask code).1)).1) i26)) ∧ True) ⟨(RdS.elt (St.rdO (i := 2) hS710 rfl) (by first | omega | (simp only [marked_len]; omega) | (simp only [marked_len] at *; omega)) (by first | omega | (simp only [marked_len]; omega) | (simp only [marked_len] at *; omega)) _ (Ext.refl _)), (RdS.elt (St.rdO (i := 4) hS710 rfl) (by first | omega | (simp only [marked_len]; omega) | (simp only [marked_len] at *; omega)) (by first | omega | (simp only [marked_len]; omega) | (simp only [marked_len] at *; omega)) _ (Ext.refl _)), (RdS.elt (St.rdO (i := 0) hS710 rfl) (by first | omega | (simp only [marked_len]; omega) | (simp only [marked_len] at *; omega)) (by first | omega | (simp only [marked_len]; omega) | (simp only [marked_len] at *; omega)) _ (Ext.refl _)), (RdS.elt (St.rdO (i := 1) hS710 rfl) (by first | omega | (simp only [marked_len]; omega) | (simp only [marked_len] at *; omega)) (by first | omega | (simp only [marked_len]; omega) | (simp only [marked_len] at *; omega)) _ (Ext.refl _)), (RdS.elt (St.rdO (i := 2) hS710 rfl) (by first | omega | (simp only [marked_len]; omega) | (simp only [marked_len] at *; omega)) (by first | omega | (simp only [marked_len]; omega) | (simp only [marked_len] at *; omega)) _ (Ext.refl _)), trivial⟩ (y_load (fun _ => by kernel_rfl) rfl (fun _ h => h.1)) rfl rfl (by kernel_rfl) (by kernel_rfl) (by kernel_rfl) (by kernel_rfl) rfl rfl (fun _ _ _ h => h) ?_; intro a717 hE718; clear hE716
                  refine d_pure (fun _ h => h) (v := .slice b27 (((F_s_DrawImageMask code).1).length) c28) 4 rfl hE718 (y_move rfl) rfl (by kernel_rfl) (by kernel_rfl) (by kernel_rfl) rfl rfl (fun _ _ _ h => h) ?_; intro a719 hE720; clear hE718
                  refine d_pure (fun _ h => h) (v := .int .i64 i26) 5 rfl hE720 (y_move rfl) rfl (by kernel_rfl) (by kernel_rfl) (by kernel_rfl) rfl rfl (fun _ _ _ h => h) ?_; intro a721 hE722; clear hE720
                  refine d_pure (fun _ h => h) (v := .pointer (some (adr b27 (Int.toNat i26)))) 6 rfl hE722 (y_idx (by kernel_rfl) (fun _ => by kernel_rfl) rfl rfl (RdS.isS (m := i26) (St.rdO (i := 4) hS710 rfl) (by first | omega | (simp only [marked_len]; omega) | (simp only [marked_len] at *; omega)) (by first | omega | (simp only [marked_len]; omega) | (simp only [marked_len] at *; omega))) (by first | omega | (simp only [marked_len]; omega) | (simp only [marked_len] at *; omega)) (by first | omega | (simp only [marked_len]; omega) | (simp only [marked_len] at *; omega)) (Nat.mul_one _).symm) rfl (by kernel_rfl) (by kernel_rfl) (by kernel_rfl) rfl rfl (fun _ _ _ h => h) ?_; intro a723 hE724; clear hE722
                  refine d_take (fun _ h => h) (fun _ _ h k => h k) (v := .int .i64 (gI ((F_s_DrawImageMask code).1) i26)) 7 rfl hE724 (S := fun w' => w'.cell? (adr b440 (Int.toNat i26)) = some (.int .i64 (gI ((F_TransitiveClosure ((F_s_DrawImageMask code).1)).1) i26)) ∧ w'.cell? (adr b27 (Int.toNat i26)) = some (.int .i64 (gI ((F_s_DrawImageMask code).1) i26)) ∧ w'.cell? (adr b491 (Int.toNat i26)) = some (.int .i64 (gI ((F_ComposeRelations ((F_s_DrawImageMask code).1) ((F_TransitiveClosure ((F_s_DrawImageMask code).1)).1)).1) i26)) ∧ w'.cell? (adr b465 (Int.toNat i26)) = some (.int .i64 (gI ((F_ComposeRelations ((F_TransitiveClosure ((F_s_DrawImageMask code).1)).1) ((F_TransitiveClosure ((F_s_DrawImageMask code).1)).1)).1) i26)) ∧ w'.cell? (adr b440 (Int.toNat i26)) = some (.int .i64 (gI ((F_TransitiveClosure ((F_s_DrawImageMask code).1)).1) i26)) ∧ True) ⟨(RdS.elt (St.rdO (i := 2) hS710 rfl) (by first | omega | (simp only [marked_len]; omega) | (simp only [marked_len] at *; omega)) (by first | omega | (simp only [marked_len]; omega) | (simp only [marked_len] at *; omega)) _ (Ext.refl _)), (RdS.elt (St.rdO (i := 4) hS710 rfl) (by first | omega | (simp only [marked_len]; omega) | (simp only [marked_len] at *; omega)) (by first | omega | (simp only [marked_len]; omega) | (simp only [marked_len] at *; omega)) _ (Ext.refl _)), (RdS.elt (St.rdO (i := 0) hS710 rfl) (by first | omega | (simp only [marked_len]; omega) | (simp only [marked_len] at *; omega)) (by first | omega | (simp only [marked_len]; omega) | (simp only [marked_len] at *; omega)) _ (Ext.refl _)), (RdS.elt (St.rdO (i := 1) hS710 rfl) (by first | omega | (simp only [marked_len]; omega) | (simp only [marked_len] at *; omega)) (by first | omega | (simp only [marked_len]; omega) | (simp only [marked_len] at *; omega)) _ (Ext.refl _)), (RdS.elt (St.rdO (i := 2) hS710 rfl) (by first | omega | (simp only [marked_len]; omega) | (simp only [marked_len] at *; omega)) (by first | omega | (simp only [marked_len]; omega) | (simp only [marked_len] at *; omega)) _ (Ext.refl _)), trivial⟩ (y_load (fun _ => by kernel_rfl) rfl (fun _ h => h.2.1)) rfl rfl (by kernel_rfl) (by kernel_rfl) (by kernel_rfl) (by kernel_rfl) rfl rfl (fun _ _ _ h => h) ?_; intro a725 hE726; clear hE724
                  refine d_pure (fun _ h => h) (v := .slice b491 (((F_ComposeRelations ((F_s_DrawImageMask code).1) ((F_TransitiveClosure ((F_s_DrawImageMask code).1)).1)).1).length) c492) 8 rfl hE726 (y_move rfl) rfl (by kernel_rfl) (by kernel_rfl) (by kernel_rfl) rfl rfl (fun _ _ _ h => h) ?_; intro a727 hE728; clear hE726
                  refine d_pure (fun _ h => h) (v := .int .i64 i26) 9 rfl hE728 (y_move rfl) rfl (by kernel_rfl) (by kernel_rfl) (by kernel_rfl) rfl rfl (fun _ _ _ h => h) ?_; intro a729 hE730; clear hE728
                  refine d_pure (fun _ h => h) (v := .pointer (some (adr b491 (Int.toNat i26)))) 10 rfl hE730 (y_idx (by kernel_rfl) (fun _ => by kernel_rfl) rfl rfl (RdS.isS (m := i26) (St.rdO (i := 0) hS710 rfl) (by first | omega | (simp only [marked_len]; omega) | (simp only [marked_len] at *; omega)) (by first | omega | (simp only [marked_len]; omega) | (simp only [marked_len] at *; omega))) (by first | omega | (simp only [marked_len]; omega) | (simp only [marked_len] at *; omega)) (by first | omega | (simp only [marked_len]; omega) | (simp only [marked_len] at *; omega)) (Nat.mul_one _).symm) rfl (by kernel_rfl) (by kernel_rfl) (by kernel_rfl) rfl rfl (fun _ _ _ h => h) ?_; intro a731 hE732; clear hE730
                  refine d_take (fun _ h => h) (fun _ _ h k => h k) (v := .int .i64 (gI ((F_ComposeRelations ((F_s_DrawImageMask code).1) ((F_TransitiveClosure ((F_s_DrawImageMask code).1)).1)).1) i26)) 11 rfl hE732 (S := fun w' => w'.cell? (adr b440 (Int.toNat i26)) = some (.int .i64 (gI ((F_TransitiveClosure ((F_s_DrawImageMask code).1)).1) i26)) ∧ w'.cell? (adr b27 (Int.toNat i26)) = some (.int .i64 (gI ((F_s_DrawImageMask code).1) i26)) ∧ w'.cell? (adr b491 (Int.toNat i26)) = some (.int .i64 (gI ((F_ComposeRelations ((F_s_DrawImageMask code).1) ((F_TransitiveClosure ((F_s_DrawImageMask code).1)).1)).1) i26)) ∧ w'.cell? (adr b465 (Int.toNat i26)) = some (.int .i64 (gI ((F_ComposeRelations ((F_TransitiveClosure ((F_s_DrawImageMask code).1)).1) ((F_TransitiveClosure ((F_s_DrawImageMask code).1)).1)).1) i26)) ∧ w'.cell? (adr b440 (Int.toNat i26)) = some (.int .i64 (gI ((F_TransitiveClosure ((F_s_DrawImageMask code).1)).1) i26)) ∧ True) ⟨(RdS.elt (St.rdO (i := 2) hS710 rfl) (by first | omega | (simp only [marked_len]; omega) | (simp only [marked_len] at *; omega)) (by first | omega | (simp only [marked_len]; omega) | (simp only [marked_len] at *; omega)) _ (Ext.refl _)), (RdS.elt (St.rdO (i := 4) hS710 rfl) (by first | omega | (simp only [marked_len]; omega) | (simp only [marked_len] at *; omega)) (by first | omega | (simp only [marked_len]; omega) | (simp only [marked_len] at *; omega)) _ (Ext.refl _)), (RdS.elt (St.rdO (i := 0) hS710 rfl) (by first | omega | (simp only [marked_len]; omega) | (simp only [marked_len] at *; omega)) (by first | omega | (simp only [marked_len]; omega) | (simp only [marked_len] at *; omega)) _ (Ext.refl _)), (RdS.elt (St.rdO (i := 1) hS710 rfl) (by first | omega | (simp only [marked_len]; omega) | (simp only [marked_len] at *; omega)) (by first | omega | (simp only [marked_len]; omega) | (simp only [marked_len] at *; omega)) _ (Ext.refl _)), (RdS.elt (St.rdO (i := 2) hS710 rfl) (by first | omega | (simp only [marked_len]; omega) | (simp only [marked_len] at *; omega)) (by first | omega | (simp only [marked_len]; omega) | (simp only [marked_len] at *; omega)) _ (Ext.refl _)), trivial⟩ (y_load (fun _ => by kernel_rfl) rfl (fun _ h => h.2.2.1)) rfl rfl (by kernel_rfl) (by kernel_rfl) (by kernel_rfl) (by kernel_rfl) rfl rfl (fun _ _ _ h => h) ?_; intro a733 hE734; clear hE732
                  refine d_pure (fun _ h => h) (v := .int .i64 (orI (gI ((F_s_DrawImageMask code).1) i26) (gI ((F_ComposeRelations ((F_s_DrawImageMask code).1) ((F_TransitiveClosure ((F_s_DrawImageMask code).1)).1)).1) i26))) 12 rfl hE734 (y_or rfl rfl) rfl (by kernel_rfl) (by kernel_rfl) (by kernel_rfl) rfl rfl (fun _ _ _ h => h) ?_; intro a735 hE736; clear hE734
                  refine d_pure (fun _ h => h) (v := .bool (!decide ((gI ((F_TransitiveClosure ((F_s_DrawImageMask code).1)).1) i26) = (orI (gI ((F_s_DrawImageMask code).1) i26) (gI ((F_ComposeRelations ((F_s_DrawImageMask code).1) ((F_TransitiveClosure ((F_s_DrawImageMask code).1)).1)).1) i26))))) 13 rfl hE736 (y_neq rfl rfl) rfl (by kernel_rfl) (by kernel_rfl) (by kernel_rfl) rfl rfl (fun _ _ _ h => h) ?_; intro a737 hE738; clear hE736
                  refine d_pure (fun _ h => h) (v := .bool (!decide ((gI ((F_TransitiveClosure ((F_s_DrawImageMask code).1)).1) i26) = (orI (gI ((F_s_DrawImageMask code).1) i26) (gI ((F_ComposeRelations ((F_s_DrawImageMask code).1) ((F_TransitiveClosure ((F_s_DrawImageMask code).1)).1)).1) i26))))) 14 rfl hE738 (y_move rfl) rfl (by kernel_rfl) (by kernel_rfl) (by kernel_rfl) rfl rfl (fun _ _ _ h => h) ?_; intro a739 hE740; clear hE738
                  rcases Bool.eq_false_or_eq_true (!decide ((gI ((F_TransitiveClosure ((F_s_DrawImageMask code).1)).1) i26) = (orI (gI ((F_s_DrawImageMask code).1) i26) (gI ((F_ComposeRelations ((F_s_DrawImageMask code).1) ((F_TransitiveClosure ((F_s_DrawImageMask code).1)).1)).1) i26)))) with hb741 | hb741
                  ·
                   have hE742 := hE740; (try rw [hb741] at hE742); clear hE740
                   have ht743 := bn_t hb741
                   have hp744 := of_decide_eq_false ht743
                   refine d_skip (fun _ h => h) 15 rfl hE742 rfl (by kernel_rfl) (by kernel_rfl) (by kernel_rfl) rfl rfl (fun _ _ _ h => h) ?_; intro a745 hE746; clear hE742
                   refine d_skip (fun _ h => h) 16 rfl hE746 rfl (by kernel_rfl) (by kernel_rfl) (by kernel_rfl) rfl rfl (fun _ _ _ h => h) ?_; intro a747 hE748; clear hE746
                   refine d_skip (fun _ h => h) 17 rfl hE748 rfl (by kernel_rfl) (by kernel_rfl) (by kernel_rfl) rfl rfl (fun _ _ _ h => h) ?_; intro a749 hE750; clear hE748
                   refine d_skip (fun _ h => h) 18 rfl hE750 rfl (by kernel_rfl) (by kernel_rfl) (by kernel_rfl) rfl rfl (fun _ _ _ h => h) ?_; intro a751 hE752; clear hE750
                   refine d_skip (fun _ h => h) 19 rfl hE752 rfl (by kernel_rfl) (by kernel_rfl) (by kernel_rfl) rfl rfl (fun _ _ _ h => h) ?_; intro a753 hE754; clear hE752
                   refine d_skip (fun _ h => h) 20 rfl hE754 rfl (by kernel_rfl) (by kernel_rfl) (by kernel_rfl) rfl rfl (fun _ _ _ h => h) ?_; intro a755 hE756; clear hE754
                   refine d_skip (fun _ h => h) 21 rfl hE756 rfl (by kernel_rfl) (by kernel_rfl) (by kernel_rfl) rfl rfl (fun _ _ _ h => h) ?_; intro a757 hE758; clear hE756
                   refine d_skip (fun _ h => h) 22 rfl hE758 rfl (by kernel_rfl) (by kernel_rfl) (by kernel_rfl) rfl rfl (fun _ _ _ h => h) ?_; intro a759 hE760; clear hE758
                   refine d_skip (fun _ h => h) 23 rfl hE760 rfl (by kernel_rfl) (by kernel_rfl) (by kernel_rfl) rfl rfl (fun _ _ _ h => h) ?_; intro a761 hE762; clear hE760
                   refine d_skip (fun _ h => h) 24 rfl hE762 rfl (by kernel_rfl) (by kernel_rfl) (by kernel_rfl) rfl rfl (fun _ _ _ h => h) ?_; intro a763 hE764; clear hE762
                   refine d_pure (fun _ h => h) (v := .bool true) 25 rfl hE764 (y_pick (b := true) rfl rfl) rfl (by kernel_rfl) (by kernel_rfl) (by kernel_rfl) rfl rfl (fun _ _ _ h => h) ?_; intro a765 hE766; clear hE764
                   refine d_done (by kernel_rfl) ?_
                   have hE767 := hE766.sub (L' := [(3, .slice b27 (((F_s_DrawImageMask code).1).length) c28), (20, .slice b440 (((F_TransitiveClosure ((F_s_DrawImageMask code).1)).1).length) c441), (22, .slice b465 (((F_ComposeRelations ((F_TransitiveClosure ((F_s_DrawImageMask code).1)).1) ((F_TransitiveClosure ((F_s_DrawImageMask code).1)).1)).1).length) c466), (24, .slice b491 (((F_ComposeRelations ((F_s_DrawImageMask code).1) ((F_TransitiveClosure ((F_s_DrawImageMask code).1)).1)).1).length) c492), (26, .int .i64 i26), (193, .bool true)]) ⟨rfl, rfl, rfl, rfl, rfl, rfl, trivial⟩; clear hE766
                   refine p_tn ?_
                   refine c_true hE767 rfl ?_
                   refine c_seq ?_
                   refine c_reg ?_
                   refine q_step (v := .bool false) hE767 (y_assign rfl) rfl rfl rfl ?_; intro a768 hE769; clear hE767
                   refine c_nil ?_
                   have hE770 := hE769.sub (L' := [(2, .bool false)]) ⟨rfl, trivial⟩; clear hE769
                   refine p_tn ?_
                   refine wp_ret ?_
                   refine p_br ?_
                   refine p_tr ?_
                   have hX771 : F_l_FnRelations_L1 code (Int.toNat ((((F_s_DrawImageMask code).1).length : Int) - 0) + 1) 0 = .error false := hT691.symm.trans (show F_l_FnRelations_L1b code (F_l_FnRelations_L1 code r695) i26 = .error false by unfold F_l_FnRelations_L1b; rw [hb741, ht705]; first | done | rfl)
                   refine p_tr (p_br (p_tr ?_))
                   refine p_tr ?_
                   have hF : F_l_FnRelations code = false := by unfold F_l_FnRelations; rw [hX771, ht673, hb637, hb586, hb521, ht422, hb382, hb335, ht297, hb265, ht137, ht122, hb94, ht13]; first | done | rfl
                   refine c_ret1 hE770 rfl rfl ?_
                   exact ⟨(by rw [hF]; first | done | (dsimp only; done) | rfl), hS710.ext⟩
                  ·
                   have hE772 := hE740; (try rw [hb741] at hE772); clear hE740
                   have ht773 := bn_f hb741
                   have hp774 := of_decide_eq_true ht773
                   refine d_pure (fun _ h => h) (v := .slice b465 (((F_ComposeRelations ((F_TransitiveClosure ((F_s_DrawImageMask code).1)).1) ((F_TransitiveClosure ((F_s_DrawImageMask code).1)).1)).1).length) c466) 15 rfl hE772 (y_move rfl) rfl (by kernel_rfl) (by kernel_rfl) (by kernel_rfl) rfl rfl (fun _ _ _ h => h) ?_; intro a775 hE776; clear hE772
                   refine d_pure (fun _ h => h) (v := .int .i64 i26) 16 rfl hE776 (y_move rfl) rfl (by kernel_rfl) (by kernel_rfl) (by kernel_rfl) rfl rfl (fun _ _ _ h => h) ?_; intro a777 hE778; clear hE776
                   refine d_pure (fun _ h => h) (v := .pointer (some (adr b465 (Int.toNat i26)))) 17 rfl hE778 (y_idx (by kernel_rfl) (fun _ => by kernel_rfl) rfl rfl (RdS.isS (m := i26) (St.rdO (i := 1) hS710 rfl) (by first | omega | (simp only [marked_len]; omega) | (simp only [marked_len] at *; omega)) (by first | omega | (simp only [marked_len]; omega) | (simp only [marked_len] at *; omega))) (by first | omega | (simp only [marked_len]; omega) | (simp only [marked_len] at *; omega)) (by first | omega | (simp only [marked_len]; omega) | (simp only [marked_len] at *; omega)) (Nat.mul_one _).symm) rfl (by kernel_rfl) (by kernel_rfl) (by kernel_rfl) rfl rfl (fun _ _ _ h => h) ?_; intro a779 hE780; clear hE778
                   refine d_take (fun _ h => h) (fun _ _ h k => h k) (v := .int .i64 (gI ((F_ComposeRelations ((F_TransitiveClosure ((F_s_DrawImageMask code).1)).1) ((F_TransitiveClosure ((F_s_DrawImageMask code).1)).1)).1) i26)) 18 rfl hE780 (S := fun w' => w'.cell? (adr b440 (Int.toNat i26)) = some (.int .i64 (gI ((F_TransitiveClosure ((F_s_DrawImageMask code).1)).1) i26)) ∧ w'.cell? (adr b27 (Int.toNat i26)) = some (.int .i64 (gI ((F_s_DrawImageMask code).1) i26)) ∧ w'.cell? (adr b491 (Int.toNat i26)) = some (.int .i64 (gI ((F_ComposeRelations ((F_s_DrawImageMask code).1) ((F_TransitiveClosure ((F_s_DrawImageMask code).1)).1)).1) i26)) ∧ w'.cell? (adr b465 (Int.toNat i26)) = some (.int .i64 (gI ((F_ComposeRelations ((F_TransitiveClosure ((F_s_DrawImageMask code).1)).1) ((F_TransitiveClosure ((F_s_DrawImageMask code).1)).1)).1) i26)) ∧ w'.cell? (adr b440 (Int.toNat i26)) = some (.int .i64 (gI ((F_TransitiveClosure ((F_s_DrawImageMask code).1)).1) i26)) ∧ True) ⟨(RdS.elt (St.rdO (i := 2) hS710 rfl) (by first | omega | (simp only [marked_len]; omega) | (simp only [marked_len] at *; omega)) (by first | omega | (simp only [marked_len]; omega) | (simp only [marked_len] at *; omega)) _ (Ext.refl _)), (RdS.elt (St.rdO (i := 4) hS710 rfl) (by first | omega | (simp only [marked_len]; omega) | (simp only [marked_len] at *; omega)) (by first | omega | (simp only [marked_len]; omega) | (simp only [marked_len] at *; omega)) _ (Ext.refl _)), (RdS.elt (St.rdO (i := 0) hS710 rfl) (by first | omega | (simp only [marked_len]; omega) | (simp only [marked_len] at *; omega)) (by first | omega | (simp only [marked_len]; omega) | (simp only [marked_len] at *; omega)) _ (Ext.refl _)), (RdS.elt (St.rdO (i := 1) hS710 rfl) (by first | omega | (simp only [marked_len]; omega) | (simp only [marked_len] at *; omega)) (by first | omega | (simp only [marked_len]; omega) | (simp only [marked_len] at *; omega)) _ (Ext.refl _)), (RdS.elt (St.rdO (i := 2) hS710 rfl) (by first | omega | (simp only [marked_len]; omega) | (simp only [marked_len] at *; omega)) (by first | omega | (simp only [marked_len]; omega) | (simp only [marked_len] at *; omega)) _ (Ext.refl _)), trivial⟩ (y_load (fun _ => by kernel_rfl) rfl (fun _ h => h.2.2.2.1)) rfl rfl (by kernel_rfl) (by kernel_rfl) (by kernel_rfl) (by kernel_rfl) rfl rfl (fun _ _ _ h => h) ?_; intro a781 hE782; clear hE780
                   refine d_pure (fun _ h => h) (v := .slice b440 (((F_TransitiveClosure ((F_s_DrawImageMask code).1)).1).length) c441) 19 rfl hE782 (y_move rfl) rfl (by kernel_rfl) (by kernel_rfl) (by kernel_rfl) rfl rfl (fun _ _ _ h => h) ?_; intro a783 hE784; clear hE782
                   refine d_pure (fun _ h => h) (v := .int .i64 i26) 20 rfl hE784 (y_move rfl) rfl (by kernel_rfl) (by kernel_rfl) (by kernel_rfl) rfl rfl (fun _ _ _ h => h) ?_; intro a785 hE786; clear hE784
                   refine d_pure (fun _ h => h) (v := .pointer (some (adr b440 (Int.toNat i26)))) 21 rfl hE786 (y_idx (by kernel_rfl) (fun _ => by kernel_rfl) rfl rfl (RdS.isS (m := i26) (St.rdO (i := 2) hS710 rfl) (by first | omega | (simp only [marked_len]; omega) | (simp only [marked_len] at *; omega)) (by first | omega | (simp only [marked_len]; omega) | (simp only [marked_len] at *; omega))) (by first | omega | (simp only [marked_len]; omega) | (simp only [marked_len] at *; omega)) (by first | omega | (simp only [marked_len]; omega) | (simp only [marked_len] at *; omega)) (Nat.mul_one _).symm) rfl (by kernel_rfl) (by kernel_rfl) (by kernel_rfl) rfl rfl (fun _ _ _ h => h) ?_; intro a787 hE788; clear hE786
                   refine d_take (fun _ h => h) (fun _ _ h k => h k) (v := .int .i64 (gI ((F_TransitiveClosure ((F_s_DrawImageMask code).1)).1) i26)) 22 rfl hE788 (S := fun w' => w'.cell? (adr b440 (Int.toNat i26)) = some (.int .i64 (gI ((F_TransitiveClosure ((F_s_DrawImageMask code).1)).1) i26)) ∧ w'.cell? (adr b27 (Int.toNat i26)) = some (.int .i64 (gI ((F_s_DrawImageMask code).1) i26)) ∧ w'.cell? (adr b491 (Int.toNat i26)) = some (.int .i64 (gI ((F_ComposeRelations ((F_s_DrawImageMask code).1) ((F_TransitiveClosure ((F_s_DrawImageMask code).1)).1)).1) i26)) ∧ w'.cell? (adr b465 (Int.toNat i26)) = some (.int .i64 (gI ((F_ComposeRelations ((F_TransitiveClosure ((F_s_DrawImageMask code).1)).1) ((F_TransitiveClosure ((F_s_DrawImageMask code).1)).1)).1) i26)) ∧ w'.cell? (adr b440 (Int.toNat i26)) = some (.int .i64 (gI ((F_TransitiveClosure ((F_s_DrawImageMask code).1)).1) i26)) ∧ True) ⟨(RdS.elt (St.rdO (i := 2) hS710 rfl) (by first | omega | (simp only [marked_len]; omega) | (simp only [marked_len] at *; omega)) (by first | omega | (simp only [marked_len]; omega) | (simp only [marked_len] at *; omega)) _ (Ext.refl _)), (RdS.elt (St.rdO (i := 4) hS710 rfl) (by first | omega | (simp only [marked_len]; omega) | (simp only [marked_len] at *; omega)) (by first | omega | (simp only [marked_len]; omega) | (simp only [marked_len] at *; omega)) _ (Ext.refl _)), (RdS.elt (St.rdO (i := 0) hS710 rfl) (by first | omega | (simp only [marked_len]; omega) | (simp only [marked_len] at *; omega)) (by first | omega | (simp only [marked_len]; omega) | (simp only [marked_len] at *; omega)) _ (Ext.refl _)), (RdS.elt (St.rdO (i := 1) hS710 rfl) (by first | omega | (simp only [marked_len]; omega) | (simp only [marked_len] at *; omega)) (by first | omega | (simp only [marked_len]; omega) | (simp only [marked_len] at *; omega)) _ (Ext.refl _)), (RdS.elt (St.rdO (i := 2) hS710 rfl) (by first | omega | (simp only [marked_len]; omega) | (simp only [marked_len] at *; omega)) (by first | omega | (simp only [marked_len]; omega) | (simp only [marked_len] at *; omega)) _ (Ext.refl _)), trivial⟩ (y_load (fun _ => by kernel_rfl) rfl (fun _ h => h.2.2.2.2.1)) rfl rfl (by kernel_rfl) (by kernel_rfl) (by kernel_rfl) (by kernel_rfl) rfl rfl (fun _ _ _ h => h) ?_; intro a789 hE790; clear hE788
                   refine d_pure (fun _ h => h) (v := .int .i64 (anI (gI ((F_ComposeRelations ((F_TransitiveClosure ((F_s_DrawImageMask code).1)).1) ((F_TransitiveClosure ((F_s_DrawImageMask code).1)).1)).1) i26) (gI ((F_TransitiveClosure ((F_s_DrawImageMask code).1)).1) i26))) 23 rfl hE790 (y_andNot rfl rfl) rfl (by kernel_rfl) (by kernel_rfl) (by kernel_rfl) rfl rfl (fun _ _ _ h => h) ?_; intro a791 hE792; clear hE790
                   refine d_pure (fun _ h => h) (v := .bool (!decide ((anI (gI ((F_ComposeRelations ((F_TransitiveClosure ((F_s_DrawImageMask code).1)).1) ((F_TransitiveClosure ((F_s_DrawImageMask code).1)).1)).1) i26) (gI ((F_TransitiveClosure ((F_s_DrawImageMask code).1)).1) i26)) = 0))) 24 rfl hE792 (y_neq rfl rfl) rfl (by kernel_rfl) (by kernel_rfl) (by kernel_rfl) rfl rfl (fun _ _ _ h => h) ?_; intro a793 hE794; clear hE792
                   refine d_pure (fun _ h => h) (v := .bool (!decide ((anI (gI ((F_ComposeRelations ((F_TransitiveClosure ((F_s_DrawImageMask code).1)).1) ((F_TransitiveClosure ((F_s_DrawImageMask code).1)).1)).1) i26) (gI ((F_TransitiveClosure ((F_s_DrawImageMask code).1)).1) i26)) = 0))) 25 rfl hE794 (y_pick (b := false) rfl rfl) rfl (by kernel_rfl) (by kernel_rfl) (by kernel_rfl) rfl rfl (fun _ _ _ h => h) ?_; intro a795 hE796; clear hE794
                   refine d_done (by kernel_rfl) ?_
                   have hE797 := hE796.sub (L' := [(3, .slice b27 (((F_s_DrawImageMask code).1).length) c28), (20, .slice b440 (((F_TransitiveClosure ((F_s_DrawImageMask code).1)).1).length) c441), (22, .slice b465 (((F_ComposeRelations ((F_TransitiveClosure ((F_s_DrawImageMask code).1)).1) ((F_TransitiveClosure ((F_s_DrawImageMask code).1)).1)).1).length) c466), (24, .slice b491 (((F_ComposeRelations ((F_s_DrawImageMask code).1) ((F_TransitiveClosure ((F_s_DrawImageMask code).1)).1)).1).length) c492), (26, .int .i64 i26), (193, .bool (!decide ((anI (gI ((F_ComposeRelations ((F_TransitiveClosure ((F_s_DrawImageMask code).1)).1) ((F_TransitiveClosure ((F_s_DrawImageMask code).1)).1)).1) i26) (gI ((F_TransitiveClosure ((F_s_DrawImageMask code).1)).1) i26)) = 0)))]) ⟨rfl, rfl, rfl, rfl, rfl, rfl, trivial⟩; clear hE796
                   refine p_tn ?_
                   refine c_cond hE797 rfl (fun ht798 => ?_) (fun ht798 => ?_)
                   ·
                    have ht799 := bn_t ht798
                    have hp800 := of_decide_eq_false ht799
                    have hE801 := hE797; rw [ht798] at hE801; clear hE797
                    refine c_seq ?_
                    refine c_reg ?_
                    refine q_step (v := .bool false) hE801 (y_assign rfl) rfl rfl rfl ?_; intro a802 hE803; clear hE801
                    refine c_nil ?_
                    have hE804 := hE803.sub (L' := [(2, .bool false)]) ⟨rfl, trivial⟩; clear hE803
                    refine p_tn ?_
                    refine wp_ret ?_
                    refine p_br ?_
                    refine p_tr ?_
                    have hX805 : F_l_FnRelations_L1 code (Int.toNat ((((F_s_DrawImageMask code).1).length : Int) - 0) + 1) 0 = .error false := hT691.symm.trans (show F_l_FnRelations_L1b code (F_l_FnRelations_L1 code r695) i26 = .error false by unfold F_l_FnRelations_L1b; rw [ht798, hb741, ht705]; first | done | rfl)
                    refine p_tr (p_br (p_tr ?_))
                    refine p_tr ?_
                    have hF : F_l_FnRelations code = false := by unfold F_l_FnRelations; rw [hX805, ht673, hb637, hb586, hb521, ht422, hb382, hb335, ht297, hb265, ht137, ht122, hb94, ht13]; first | done | rfl
                    refine c_ret1 hE804 rfl rfl ?_
                    exact ⟨(by rw [hF]; first | done | (dsimp only; done) | rfl), hS710.ext⟩
                   ·
                    have ht806 := bn_f ht798
                    have hp807 := of_decide_eq_true ht806
                    have hE808 := hE797; rw [ht798] at hE808; clear hE797
                    refine wp_skip ?_
                    refine p_bn ?_
                    refine p_tn ?_
                    refine c_reg ?_
                    refine q_step (v := .int .i64 i26) hE808 (y_move rfl) rfl rfl rfl ?_; intro a809 hE810; clear hE808
                    refine q_step (v := .int .i64 (i26 + 1)) hE810 (y_add rfl rfl ⟨(by first | omega | (simp only [marked_len]; omega) | (simp only [marked_len] at *; omega)), (by first | omega | (simp only [marked_len]; omega) | (simp only [marked_len] at *; omega))⟩) rfl rfl rfl ?_; intro a811 hE812; clear hE810
                    refine q_step (v := .int .i64 (i26 + 1)) hE812 (y_assign rfl) rfl rfl rfl ?_; intro a813 hE814; clear hE812
                    refine c_nil ?_
                    have hE815 := hE814.sub (L' := [(3, .slice b27 (((F_s_DrawImageMask code).1).length) c28), (20, .slice b440 (((F_TransitiveClosure ((F_s_DrawImageMask code).1)).1).length) c441), (22, .slice b465 (((F_ComposeRelations ((F_TransitiveClosure ((F_s_DrawImageMask code).1)).1) ((F_TransitiveClosure ((F_s_DrawImageMask code).1)).1)).1).length) c466), (24, .slice b491 (((F_ComposeRelations ((F_s_DrawImageMask code).1) ((F_TransitiveClosure ((F_s_DrawImageMask code).1)).1)).1).length) c492), (26, .int .i64 (i26 + 1))]) ⟨rfl, rfl, rfl, rfl, rfl, trivial⟩; clear hE814
                    refine p_tn ⟨r695, Nat.lt_succ_self _, i26 + 1, (hT691.symm.trans (show F_l_FnRelations_L1b code (F_l_FnRelations_L1 code r695) i26 = F_l_FnRelations_L1 code r695 (i26 + 1) by unfold F_l_FnRelations_L1b; rw [ht798, hb741, ht705]; first | done | rfl)).symm, (by omega), (by first | omega | (simp only [sS_len, sL_len]; omega) | (simp only [List.length_replicate, sI_len]; omega) | (simp only [List.length_append, List.length_cons, List.length_nil, sI_len, cond_true, cond_false]; omega) | (simp only [List.length_append, List.length_cons, List.length_nil, sI_len, cond_eq_ite, apply_ite List.length]; split <;> simp only [List.length_append, List.length_cons, List.length_nil, sI_len] <;> omega) | grind), (by first | omega | (simp only [sS_len, sL_len]; omega) | (simp only [List.length_replicate, sI_len]; omega) | (simp only [List.length_append, List.length_cons, List.length_nil, sI_len, cond_true, cond_false]; omega) | (simp only [List.length_append, List.length_cons, List.length_nil, sI_len, cond_eq_ite, apply_ite List.length]; split <;> simp only [List.length_append, List.length_cons, List.length_nil, sI_len] <;> omega) | grind), (hE815.sub (L' := [(3, .slice b27 (((F_s_DrawImageMask code).1).length) c28), (20, .slice b440 (((F_TransitiveClosure ((F_s_DrawImageMask code).1)).1).length) c441), (22, .slice b465 (((F_ComposeRelations ((F_TransitiveClosure ((F_s_DrawImageMask code).1)).1) ((F_TransitiveClosure ((F_s_DrawImageMask code).1)).1)).1).length) c466), (24, .slice b491 (((F_ComposeRelations ((F_s_DrawImageMask code).1) ((F_TransitiveClosure ((F_s_DrawImageMask code).1)).1)).1).length) c492), (26, .int .i64 (i26 + 1))]) ⟨rfl, rfl, rfl, rfl, rfl, trivial⟩), (St.pick (Γ' := [.own 2 1 b491 (((F_ComposeRelations ((F_s_DrawImageMask code).1) ((F_TransitiveClosure ((F_s_DrawImageMask code).1)).1)).1).length) c492 ((F_ComposeRelations ((F_s_DrawImageMask code).1) ((F_TransitiveClosure ((F_s_DrawImageMask code).1)).1)).1), .own 2 1 b465 (((F_ComposeRelations ((F_TransitiveClosure ((F_s_DrawImageMask code).1)).1) ((F_TransitiveClosure ((F_s_DrawImageMask code).1)).1)).1).length) c466 ((F_ComposeRelations ((F_TransitiveClosure ((F_s_DrawImageMask code).1)).1) ((F_TransitiveClosure ((F_s_DrawImageMask code).1)).1)).1), .own 2 1 b440 (((F_TransitiveClosure ((F_s_DrawImageMask code).1)).1).length) c441 ((F_TransitiveClosure ((F_s_DrawImageMask code).1)).1), .own 2 1 b166 (((F_InverseRelation ((F_s_DrawImageMask code).1)).1).length) c167 ((F_InverseRelation ((F_s_DrawImageMask code).1)).1), .own 2 1 b27 (((F_s_DrawImageMask code).1).length) c28 ((F_s_DrawImageMask code).1)]) hS710 [0, 1, 2, 3, 4] (by decide) rfl)⟩
                 ·
                  have hp816 := of_decide_eq_false ht705
                  have hE817 := hE704; rw [ht705] at hE817; clear hE704
                  refine wp_exit ?_
                  refine p_te ?_
                  have hX818 : F_l_FnRelations_L1 code (Int.toNat ((((F_s_DrawImageMask code).1).length : Int) - 0) + 1) 0 = .ok i26 := hT691.symm.trans (show F_l_FnRelations_L1b code (F_l_FnRelations_L1 code r695) i26 = .ok i26 by unfold F_l_FnRelations_L1b; rw [ht705]; first | done | rfl)
                  refine p_te (p_be (p_tn ?_))
                  exact ⟨(by rw [hX818]; rfl), (by rw [hX818]; exact (show 0 ≤ i26 from (by first | omega | (simp only [sS_len, sL_len]; omega) | (simp only [List.length_replicate, sI_len]; omega) | (simp only [List.length_append, List.length_cons, List.length_nil, sI_len, cond_true, cond_false]; omega) | (simp only [List.length_append, List.length_cons, List.length_nil, sI_len, cond_eq_ite, apply_ite List.length]; split <;> simp only [List.length_append, List.length_cons, List.length_nil, sI_len] <;> omega) | grind))), (by rw [hX818]; exact (show i26 ≤ (((F_s_DrawImageMask code).1).length : Int) from (by first | omega | (simp only [sS_len, sL_len]; omega) | (simp only [List.length_replicate, sI_len]; omega) | (simp only [List.length_append, List.length_cons, List.length_nil, sI_len, cond_true, cond_false]; omega) | (simp only [List.length_append, List.length_cons, List.length_nil, sI_len, cond_eq_ite, apply_ite List.length]; split <;> simp only [List.length_append, List.length_cons, List.length_nil, sI_len] <;> omega) | grind))), (by rw [hX818]; exact (hE817.sub (L' := [(3, .slice b27 (((F_s_DrawImageMask code).1).length) c28), (20, .slice b440 (((F_TransitiveClosure ((F_s_DrawImageMask code).1)).1).length) c441), (22, .slice b465 (((F_ComposeRelations ((F_TransitiveClosure ((F_s_DrawImageMask code).1)).1) ((F_TransitiveClosure ((F_s_DrawImageMask code).1)).1)).1).length) c466), (24, .slice b491 (((F_ComposeRelations ((F_s_DrawImageMask code).1) ((F_TransitiveClosure ((F_s_DrawImageMask code).1)).1)).1).length) c492), (26, .int .i64 i26)]) ⟨rfl, rfl, rfl, rfl, rfl, trivial⟩)), (St.pick (Γ' := [.own 2 1 b491 (((F_ComposeRelations ((F_s_DrawImageMask code).1) ((F_TransitiveClosure ((F_s_DrawImageMask code).1)).1)).1).length) c492 ((F_ComposeRelations ((F_s_DrawImageMask code).1) ((F_TransitiveClosure ((F_s_DrawImageMask code).1)).1)).1), .own 2 1 b465 (((F_ComposeRelations ((F_TransitiveClosure ((F_s_DrawImageMask code).1)).1) ((F_TransitiveClosure ((F_s_DrawImageMask code).1)).1)).1).length) c466 ((F_ComposeRelations ((F_TransitiveClosure ((F_s_DrawImageMask code).1)).1) ((F_TransitiveClosure ((F_s_DrawImageMask code).1)).1)).1), .own 2 1 b440 (((F_TransitiveClosure ((F_s_DrawImageMask code).1)).1).length) c441 ((F_TransitiveClosure ((F_s_DrawImageMask code).1)).1), .own 2 1 b166 (((F_InverseRelation ((F_s_DrawImageMask code).1)).1).length) c167 ((F_InverseRelation ((F_s_DrawImageMask code).1)).1), .own 2 1 b27 (((F_s_DrawImageMask code).1).length) c28 ((F_s_DrawImageMask code).1)]) hS690 [0, 1, 2, 3, 4] (by decide) rfl)⟩
               ·
                rintro a819 w820 ⟨hO823, hi824, hi825, hE821, hS822⟩; clear hE685 hS489
                refine p_tn ?_
                refine c_seq ?_
                refine c_reg ?_
                refine q_step (v := .bool true) hE821 (y_assign rfl) rfl rfl rfl ?_; intro a826 hE827; clear hE821
                refine c_nil ?_
                have hE828 := hE827.sub (L' := [(2, .bool true)]) ⟨rfl, trivial⟩; clear hE827
                refine p_tn ?_
                refine wp_ret ?_
                have hF : F_l_FnRelations code = true := by unfold F_l_FnRelations; rw [hO823, ht673, hb637, hb586, hb521, ht422, hb382, hb335, ht297, hb265, ht137, ht122, hb94, ht13]; first | done | rfl
                refine c_ret1 hE828 rfl rfl ?_
                exact ⟨(by rw [hF]; first | done | (dsimp only; done) | rfl), hS822.ext⟩

theorem tb_fullI (n j : Nat) : tb (fullI (n : Int)) j = decide (j < n) := by
  unfold tb fullI
  have e : ((2 : Int) ^ n - 1).toNat = 2 ^ n - 1 := by
    have e1 : ((2 : Int) ^ n) = ((2 ^ n : Nat) : Int) := by norm_cast
    have e2 : 0 < 2 ^ n := Nat.pow_pos (by decide)
    rw [e1]
    generalize 2 ^ n = p at *
    omega
  rw [Int.toNat_natCast, e, Nat.testBit_two_pow_sub_one]
theorem rb_lt {n : Nat} {a : List Int} (ha : Rl n a) {i j : Nat} (h : rb a i j = true) : i < n ∧ j < n := by
  have hi : i < n := by
    apply Decidable.byContradiction; intro hn
    have : gI a (i : Int) = 0 := gi_out (by have := ha.1; omega)
    unfold rb at h
    rw [this, tb_zero] at h
    cases h
  exact ⟨hi, tb_lt (ha.2 i hi) h⟩
theorem isRel_of {n : Nat} {a : List Int} (hn : n ≤ 30) (ha : Rl n a) : F_isRelation a = true := by
  have hl := ha.1
  rw [isRel_eq (by omega), masks_eq, List.all_eq_true]
  intro x hx
  obtain ⟨k, hk, rfl⟩ := List.getElem_of_mem hx
  have h1 := ha.2 k (by omega)
  have e : gI a (k : Int) = a[k] := by unfold gI; rw [Int.toNat_natCast]; exact gi_get hk
  rw [e] at h1
  unfold F_l01In
  rw [hl, decide_eq_true h1.1, decide_eq_true h1.2]; rfl
theorem l01Rel_of {n : Nat} {a : List Int} (hn : n ≤ 30) (ha : Rl n a) : F_relationCode [a] = 0 := by
  rw [relCode1, isRel_of hn ha, decide_eq_false (by have := ha.1; omega)]; rfl
theorem maskOn_of {n : Nat} {a : List Int} {m : Int} (hn : n ≤ 30) (ha : Rl n a) (hm : Mk n m) : F_maskOn a m = 0 := by
  have hl := ha.1
  have h1 := l01Rel_of hn ha
  rw [relCode1_rel] at h1
  rw [maskOn_both]
  unfold F_l01Both F_l01In
  rw [h1, hl, decide_eq_true hm.1, decide_eq_true hm.2]; rfl
theorem box_bits {n : Nat} (hn : n ≤ 30) {a : List Int} {m : Int} (ha : Rl n a) (hm : Mk n m) : Mk n (F_box a m) ∧ ∀ i, (tb (F_box a m) i = true ↔ i < n ∧ ∀ j, rb a i j = true → tb m j = true) := by
  have hl := ha.1
  have e : F_box a m = (List.range n).foldl (fun o (i : Nat) => bif F_within (gI a (i : Int)) m then orI o (powI (i : Int)) else o) 0 := by
    unfold F_box
    rw [rangeLoop0 (a.length : Int) (by omega) (fun o t => bif F_within (gI a t) m then orI o (shlI 1 t) else o) (F_box_L1 a m) (fun r o t => rfl), hl, Int.toNat_natCast]
    refine foldl_ext' _ _ _ _ fun i hi o => ?_
    have := List.mem_range.1 hi
    rw [shlI_one (k := (i : Int)) (by omega) (by omega)]; rfl
  rw [e]
  obtain ⟨h1, h2⟩ := pow_fold (n := n) (by omega) (fun i => F_within (gI a (i : Int)) m)
  refine ⟨h1, fun i => ?_⟩
  rw [h2 i, Bool.and_eq_true, decide_eq_true_iff]
  constructor
  · rintro ⟨h3, h4⟩
    exact ⟨h3, (within_bits (by omega) (ha.2 i h3) hm).1 h4⟩
  · rintro ⟨h3, h4⟩
    exact ⟨h3, (within_bits (by omega) (ha.2 i h3) hm).2 h4⟩
theorem compose_bits {n : Nat} (hn : n ≤ 30) {a b : List Int} (ha : Rl n a) (hb : Rl n b) : F_ComposeRelations a b = (F_compose a b, 0) ∧ Rl n (F_compose a b) ∧ ∀ i j, i < n → (rb (F_compose a b) i j = true ↔ ∃ k, rb a i k = true ∧ rb b k j = true) := by
  have la := ha.1
  have lb := hb.1
  have hr : F_isRelation a = true ∧ F_isRelation b = true ∧ a.length ≤ 30 ∧ b.length ≤ 30 := ⟨isRel_of hn ha, isRel_of hn hb, by omega, by omega⟩
  have hc : F_relationCode [a, b] = 0 := by
    rw [relCode2, hr.1, hr.2.1, decide_eq_false (by omega), decide_eq_false (by omega)]; rfl
  obtain ⟨h1, h2⟩ := mapLoop (a.length : Int) (fun t _ => F_image b (gI a t)) (F_compose_L1 a b) (fun _ _ _ _ _ => rfl) (List.replicate (Int.toNat (a.length : Int)) 0) (by simp)
  have row : ∀ i : Nat, i < n → gI (F_compose a b) (i : Int) = F_l01Image b (gI a (i : Int)) := fun i hi => by
    rw [← image_eq (n := n) (by omega) lb (ha.2 i hi)]
    exact h2 i (by omega)
  refine ⟨?_, ⟨?_, fun i hi => ?_⟩, fun i j hi => ?_⟩
  · unfold F_ComposeRelations
    rw [hc, decide_eq_true (show (a.length : Int) = (b.length : Int) by omega)]; rfl
  · show (F_compose_L1 a b (Int.toNat ((a.length : Int) - 0) + 1) 0 _).2.length = n
    omega
  · rw [row i hi]; exact (l01Image_bits (by omega) hb (ha.2 i hi)).1
  · unfold rb
    rw [row i hi, (l01Image_bits (by omega) hb (ha.2 i hi)).2 j]
    rfl
theorem full9_eq {n : Int} (h0 : 0 ≤ n) (h1 : n ≤ 60) : F_l_full9 n = fullI n := by
  unfold F_l_full9
  rw [decide_eq_false (by omega), decide_eq_false (by omega), full_wI h0 (by omega)]; rfl
theorem closure_bits {n : Nat} (hn : n ≤ 30) {a : List Int} (ha : Rl n a) : F_TransitiveClosure a = (F_transitive a, 0) ∧ Rl n (F_transitive a) ∧ (∀ i j, i < n → (rb (F_transitive a) i j = true ↔ rb a i j = true ∨ ∃ k, rb a i k = true ∧ rb (F_transitive a) k j = true)) ∧ ∀ i k j, i < n → rb (F_transitive a) i k = true → rb (F_transitive a) k j = true → rb (F_transitive a) i j = true := by
  have tc := transitive_tc hn ha
  refine ⟨by unfold F_TransitiveClosure; rw [l01Rel_of hn ha]; rfl, tc.rel, fun i j hi => ⟨fun h => ?_, ?_⟩, tc.tra⟩
  · refine transitive_least hn ha (fun i j => rb a i j = true ∨ ∃ k, rb a i k = true ∧ rb (F_transitive a) k j = true) ?_ (fun _ _ _ h => .inl h) i j hi h
    intro i k j h1 h2
    have st : ∀ x y, (rb a x y = true ∨ ∃ k, rb a x k = true ∧ rb (F_transitive a) k y = true) → rb (F_transitive a) x y = true := fun x y h => by
      rcases h with h | ⟨z, h3, h4⟩
      · exact tc.sup x y (rb_lt ha h).1 h
      · exact tc.tra x z y (rb_lt ha h3).1 (tc.sup x z (rb_lt ha h3).1 h3) h4
    have h3 := st k j h2
    rcases h1 with h1 | ⟨z, h4, h5⟩
    · exact .inr ⟨k, h1, h3⟩
    · exact .inr ⟨z, h4, tc.tra z k j (rb_lt ha h4).2 h5 h3⟩
  · rintro (h | ⟨k, h1, h2⟩)
    · exact tc.sup i j hi h
    · exact tc.tra i k j hi (tc.sup i k hi h1) h2
theorem FnRelations_true (code : List Int) : F_l_FnRelations code = true := by
  have hloop := fun (n : Int) (hn : 0 ≤ n) (he : n = (((F_s_DrawImageMask code).1).length : Int)) => allE (F_l_FnRelations_L1 code) false n (fun i => (!decide ((gI ((F_TransitiveClosure ((F_s_DrawImageMask code).1)).1) i) = (orI (gI ((F_s_DrawImageMask code).1) i) (gI ((F_ComposeRelations ((F_s_DrawImageMask code).1) ((F_TransitiveClosure ((F_s_DrawImageMask code).1)).1)).1) i)))) || (!decide ((anI (gI ((F_ComposeRelations ((F_TransitiveClosure ((F_s_DrawImageMask code).1)).1) ((F_TransitiveClosure ((F_s_DrawImageMask code).1)).1)).1) i) (gI ((F_TransitiveClosure ((F_s_DrawImageMask code).1)).1) i)) = 0))) hn (fun r i _ _ => by
      show F_l_FnRelations_L1b code _ i = _
      unfold F_l_FnRelations_L1b
      rw [← he]
      cases (!decide ((gI ((F_TransitiveClosure ((F_s_DrawImageMask code).1)).1) i) = (orI (gI ((F_s_DrawImageMask code).1) i) (gI ((F_ComposeRelations ((F_s_DrawImageMask code).1) ((F_TransitiveClosure ((F_s_DrawImageMask code).1)).1)).1) i)))) <;> rfl)
  have hloop := hloop _ (by omega) rfl
  unfold F_l_FnRelations
  rcases Bool.eq_false_or_eq_true (F_l_big code) with hb | hb
  · rw [hb]; rfl
  rw [hb, cond_false, hloop]
  generalize F_s_DrawImageMask code = d
  obtain ⟨a, m⟩ := d
  dsimp only
  by_cases hv : ¬ F_maskOn a m = 0
  · have e1 : F_ImageMask a m = (0, F_maskOn a m) := by unfold F_ImageMask; rw [decide_eq_false hv]; rfl
    have e2 : F_s_ImageMask a m = (0, F_maskOn a m) := by unfold F_s_ImageMask; rw [maskOn_both] at hv ⊢; rw [decide_eq_false hv]; rfl
    rw [e1, e2]
    dsimp only
    rw [decide_eq_true rfl, decide_eq_true rfl, decide_eq_false hv]; rfl
  have hv := Decidable.not_not.1 hv
  have ht := maskOn_t hv
  have hn : a.length ≤ 30 := ht.2.1
  have ha : Rl a.length a := rl_ofL fun x h0 h1 => by have := isRel_all ht.1 hn x h0 h1; omega
  have hm : Mk a.length m := ⟨ht.2.2.1, ht.2.2.2.1⟩
  have im : ∀ (b : List Int) (x : Int), Rl a.length b → Mk a.length x → F_ImageMask b x = (F_l01Image b x, 0) := fun b x hb hx => by
    unfold F_ImageMask
    rw [maskOn_of hn hb hx, image_eq (n := a.length) (by omega) hb.1 hx]; rfl
  have bx : ∀ (b : List Int) (x : Int), Rl a.length b → Mk a.length x → F_BoxMask b x = (F_box b x, 0) := fun b x hb hx => by
    unfold F_BoxMask
    rw [maskOn_of hn hb hx]; rfl
  have e2 : F_s_ImageMask a m = (F_l01Image a m, 0) := by
    unfold F_s_ImageMask
    rw [← maskOn_both, hv]; rfl
  obtain ⟨i1, i2⟩ := l01Image_bits (n := a.length) (by omega) ha hm
  have e3 : F_InverseRelation a = (F_inverse a, 0) := by unfold F_InverseRelation; rw [l01Rel_of hn ha]; rfl
  obtain ⟨v1, v2⟩ := inverse_bits hn ha
  obtain ⟨b1, b2⟩ := box_bits hn ha i1
  obtain ⟨b3, b4⟩ := box_bits hn v1 hm
  obtain ⟨i3, i4⟩ := l01Image_bits (n := a.length) (by omega) ha b3
  obtain ⟨i5, i6⟩ := l01Image_bits (n := a.length) (by omega) v1 b3
  obtain ⟨c1, c2, c3, c4⟩ := closure_bits hn ha
  obtain ⟨d1, d2, d3⟩ := compose_bits hn c2 c2
  obtain ⟨d4, d5, d6⟩ := compose_bits hn ha c2
  rw [im a m ha hm, e2, e3, c1]
  dsimp only
  rw [bx a _ ha i1, bx _ m v1 hm, d1, d4]
  dsimp only
  rw [im a _ ha b3, im _ _ v1 b3, full9_eq (by omega) (by omega), c2.1, d2.1, d5.1]
  dsimp only
  have z1 : anI m (F_box a (F_l01Image a m)) = 0 := (Mk.anz (by omega) hm b1).2 fun j hj => (b2 j).2 ⟨tb_lt hm hj, fun k hk => (i2 k).2 ⟨j, hj, hk⟩⟩
  have z2 : anI (F_l01Image (F_inverse a) (F_box (F_inverse a) m)) m = 0 := (Mk.anz (by omega) i5 hm).2 fun j hj => by
    obtain ⟨i, h1, h2⟩ := (i6 j).1 hj
    exact ((b4 i).1 h1).2 j h2
  have z3 : anI (F_l01Image a (F_box (F_inverse a) m)) (fullI (a.length : Int)) = 0 := (Mk.anz (n := a.length) (by omega) i3 ⟨by have := fullI_bd (n := (a.length : Int)) (by omega) (by omega); omega, Int.le_refl _⟩).2 fun j hj => by
    rw [tb_fullI]
    exact decide_eq_true (tb_lt i3 hj)
  rw [z1, z2, z3]
  have hall : (List.range ((a.length : Int)).toNat).all (fun (j : Nat) => !((!decide ((gI (F_transitive a) (j : Int)) = (orI (gI a (j : Int)) (gI (F_compose a (F_transitive a)) (j : Int))))) || (!decide ((anI (gI (F_compose (F_transitive a) (F_transitive a)) (j : Int)) (gI (F_transitive a) (j : Int))) = 0)))) = true := by
    rw [List.all_eq_true]
    intro i hi
    have hi : i < a.length := by have := List.mem_range.1 hi; omega
    obtain ⟨o1, o2⟩ := Mk.or (n := a.length) (by omega) (ha.2 i hi) (d5.2 i hi)
    have q1 : gI (F_transitive a) (i : Int) = orI (gI a (i : Int)) (gI (F_compose a (F_transitive a)) (i : Int)) := tb_ext (c2.2 i hi).1 o1.1 fun j => by
      rw [o2 j, Bool.eq_iff_iff, Bool.or_eq_true]
      exact (c3 i j hi).trans (or_congr Iff.rfl (d6 i j hi).symm)
    have q2 : anI (gI (F_compose (F_transitive a) (F_transitive a)) (i : Int)) (gI (F_transitive a) (i : Int)) = 0 := (Mk.anz (n := a.length) (by omega) (d2.2 i hi) (c2.2 i hi)).2 fun j hj => by
      obtain ⟨k, h1, h2⟩ := (d3 i j hi).1 hj
      exact c4 i k j hi h1 h2
    rw [decide_eq_true q1, decide_eq_true q2]; rfl
  rw [hall]
  simp only [decide_true, Bool.not_true, cond_false, Int.add_zero, cond_true]
  rfl


end Go.Proofs.Ytlbonhloeefnmaa
