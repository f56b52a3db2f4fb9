/- GLFB: models and contracts, printed by wip/gen/gen.py -/
import Derived.Test.YtkilkfhjfobcdaaKFBGBD
import Derived.Test.YtkilkfhjfobcdaaKFBGBM
set_option linter.unusedVariables false
set_option linter.unusedSimpArgs false
namespace Go.Proofs.Ytkilkfhjfobcdaa
open Go.RowKit
def F_l_FnBuilding_L1b (code : List Int) (rec : Int → Except (Bool) (Int)) (k27 : Int) : Except (Bool) (Int) :=
  bif (decide (k27 < 7)) then (bif (decide (k27 = ((F_s_DrawJoinFormulas code).1))) then (bif (!decide ((gI ((F_KindCounts ((F_JoinFormulas ((F_s_DrawJoinFormulas code).1) ((F_s_DrawJoinFormulas code).2.1) ((F_s_DrawJoinFormulas code).2.2)).1)).1) k27) = (((gI ((F_KindCounts ((F_s_DrawJoinFormulas code).2.1)).1) k27) + (gI ((F_KindCounts ((F_s_DrawJoinFormulas code).2.2)).1) k27)) + 1))) then (.error false) else (rec (k27 + 1))) else (bif (!decide ((gI ((F_KindCounts ((F_JoinFormulas ((F_s_DrawJoinFormulas code).1) ((F_s_DrawJoinFormulas code).2.1) ((F_s_DrawJoinFormulas code).2.2)).1)).1) k27) = (((gI ((F_KindCounts ((F_s_DrawJoinFormulas code).2.1)).1) k27) + (gI ((F_KindCounts ((F_s_DrawJoinFormulas code).2.2)).1) k27)) + 0))) then (.error false) else (rec (k27 + 1)))) else (.ok k27)
def F_l_FnBuilding_L1 (code : List Int) : Nat → Int → Except (Bool) (Int)
  | 0, k27 => .ok k27
  | r + 1, k27 => F_l_FnBuilding_L1b code (F_l_FnBuilding_L1 code r) k27
def F_l_FnBuilding (code : List Int) : Bool :=
  bif (F_l_big code) then true else (bif (!decide (((F_JoinFormulas ((F_s_DrawJoinFormulas code).1) ((F_s_DrawJoinFormulas code).2.1) ((F_s_DrawJoinFormulas code).2.2)).2) = ((F_s_JoinFormulas ((F_s_DrawJoinFormulas code).1) ((F_s_DrawJoinFormulas code).2.1) ((F_s_DrawJoinFormulas code).2.2)).2))) then false else (bif (!(F_l_sameNodes9 ((F_JoinFormulas ((F_s_DrawJoinFormulas code).1) ((F_s_DrawJoinFormulas code).2.1) ((F_s_DrawJoinFormulas code).2.2)).1) ((F_s_JoinFormulas ((F_s_DrawJoinFormulas code).1) ((F_s_DrawJoinFormulas code).2.1) ((F_s_DrawJoinFormulas code).2.2)).1))) then false else (bif (!decide (((F_JoinFormulas ((F_s_DrawJoinFormulas code).1) ((F_s_DrawJoinFormulas code).2.1) ((F_s_DrawJoinFormulas code).2.2)).2) = 0)) then (decide (((((F_JoinFormulas ((F_s_DrawJoinFormulas code).1) ((F_s_DrawJoinFormulas code).2.1) ((F_s_DrawJoinFormulas code).2.2)).1).length / 2 : Nat) : Int) = 0)) else (bif (!decide (((((((((F_KindCounts ((F_s_DrawJoinFormulas code).2.1)).2) + ((F_KindCounts ((F_s_DrawJoinFormulas code).2.2)).2)) + ((F_KindCounts ((F_JoinFormulas ((F_s_DrawJoinFormulas code).1) ((F_s_DrawJoinFormulas code).2.1) ((F_s_DrawJoinFormulas code).2.2)).1)).2)) + ((F_PartEnd ((F_JoinFormulas ((F_s_DrawJoinFormulas code).1) ((F_s_DrawJoinFormulas code).2.1) ((F_s_DrawJoinFormulas code).2.2)).1) 1).2)) + ((F_DepthsOf ((F_JoinFormulas ((F_s_DrawJoinFormulas code).1) ((F_s_DrawJoinFormulas code).2.1) ((F_s_DrawJoinFormulas code).2.2)).1)).2.2)) + ((F_DepthsOf ((F_s_DrawJoinFormulas code).2.1)).2.2)) + ((F_DepthsOf ((F_s_DrawJoinFormulas code).2.2)).2.2)) = 0)) then false else (bif (!decide ((((F_KindCounts ((F_s_DrawJoinFormulas code).2.1)).1).length : Int) = 7)) then false else (bif (!decide ((((F_KindCounts ((F_s_DrawJoinFormulas code).2.2)).1).length : Int) = 7)) then false else (bif (!decide ((((F_KindCounts ((F_JoinFormulas ((F_s_DrawJoinFormulas code).1) ((F_s_DrawJoinFormulas code).2.1) ((F_s_DrawJoinFormulas code).2.2)).1)).1).length : Int) = 7)) then false else (bif (!decide (((F_PartEnd ((F_JoinFormulas ((F_s_DrawJoinFormulas code).1) ((F_s_DrawJoinFormulas code).2.1) ((F_s_DrawJoinFormulas code).2.2)).1) 1).1) = (((((F_s_DrawJoinFormulas code).2.1).length / 2 : Nat) : Int) + 1))) then false else (bif (!decide (((F_DepthsOf ((F_JoinFormulas ((F_s_DrawJoinFormulas code).1) ((F_s_DrawJoinFormulas code).2.1) ((F_s_DrawJoinFormulas code).2.2)).1)).1) = ((max ((F_DepthsOf ((F_s_DrawJoinFormulas code).2.1)).1) ((F_DepthsOf ((F_s_DrawJoinFormulas code).2.2)).1)) + 1))) then false else (bif (!decide (((F_DepthsOf ((F_JoinFormulas ((F_s_DrawJoinFormulas code).1) ((F_s_DrawJoinFormulas code).2.1) ((F_s_DrawJoinFormulas code).2.2)).1)).2.1) = (max ((F_DepthsOf ((F_s_DrawJoinFormulas code).2.1)).2.1) ((F_DepthsOf ((F_s_DrawJoinFormulas code).2.2)).2.1)))) then false else (bif (isOk (F_l_FnBuilding_L1 code (Int.toNat (7 - 0) + 1) 0)) then true else (errD (F_l_FnBuilding_L1 code (Int.toNat (7 - 0) + 1) 0)))))))))))))
set_option maxRecDepth 100000 in
theorem c_l_FnBuilding (codeA : Option Addr) (codeN codeC : Nat) (code : List Int) (w : World) (codeR : RdB w codeA codeN codeC code) :
    Calls Try.prog 13 #[.slice codeA code.length codeC] w (Ret fun v w' => v = .bool (F_l_FnBuilding code) ∧ Ext w w') := by
  obtain rfl : codeN = code.length := codeR.len
  have codeLe := codeR.le
  have hS := St.nil w
  refine enter (args := [.slice codeA code.length codeC]) Try.func13 rfl rfl ?_
  rw [Try.ntmps13]; intro a hE
  have hE := hE.sub (L' := [(0, .slice codeA code.length codeC)]) ⟨rfl, trivial⟩
  refine c_seq ?_
  refine c_reg ?_
  refine q_step (v := .bool false) hE (y_assign rfl) rfl rfl rfl ?_; intro a1 hE2; clear hE
  refine c_nil ?_
  have hE3 := hE2.sub (L' := [(0, .slice codeA code.length codeC)]) ⟨rfl, trivial⟩; clear hE2
  refine p_tn ?_
  refine c_seq ?_
  refine c_seq ?_
  refine c_reg ?_
  refine q_step (v := .slice codeA code.length codeC) hE3 (y_move rfl) rfl rfl rfl ?_; intro a4 hE5; clear hE3
  refine l_step hE5 rfl (l_call (f := 59) (argv := [.slice codeA code.length codeC]) hE5 (fun _ => cf_l_big _ _) rfl rfl (c_l_big codeA code.length codeC code w (codeR.ext hS.ext)) ?_)
  rintro _ _ ⟨rfl, rfl⟩ a8 hE9; clear hE5
  refine c_nil ?_
  have hE12 := hE9.sub (L' := [(0, .slice codeA code.length codeC), (30, .bool (F_l_big code))]) ⟨rfl, rfl, trivial⟩; clear hE9
  refine p_tn ?_
  refine c_cond hE12 rfl (fun ht13 => ?_) (fun ht13 => ?_)
  ·
   have hE14 := hE12; rw [ht13] at hE14; clear hE12
   refine c_seq ?_
   refine c_reg ?_
   refine q_step (v := .bool true) hE14 (y_assign rfl) rfl rfl rfl ?_; intro a15 hE16; clear hE14
   refine c_nil ?_
   have hE17 := hE16.sub (L' := [(2, .bool true)]) ⟨rfl, trivial⟩; clear hE16
   refine p_tn ?_
   refine wp_ret ?_
   refine p_tr ?_
   have hF : F_l_FnBuilding code = true := by unfold F_l_FnBuilding; rw [ht13]; first | done | rfl
   refine c_ret1 hE17 rfl rfl ?_
   exact ⟨(by rw [hF]; first | done | (dsimp only; done) | rfl), hS.ext⟩
  ·
   have hE18 := hE12; rw [ht13] at hE18; clear hE12
   refine wp_skip ?_
   refine p_tn ?_
   refine c_seq ?_
   refine c_reg ?_
   refine q_step (v := .slice codeA code.length codeC) hE18 (y_move rfl) rfl rfl rfl ?_; intro a19 hE20; clear hE18
   refine l_step hE20 rfl (l_call (f := 60) (argv := [.slice codeA code.length codeC]) hE20 (fun _ => cf_s_DrawJoinFormulas _ _) rfl rfl (c_s_DrawJoinFormulas codeA code.length codeC code w (codeR.ext hS.ext)) ?_)
   rintro _ w22 ⟨b27, c28, b29, c30, rfl, ho31⟩ a23 hE24; clear hE20
   have he26 := ho31.ext
   have hf33 := DrawJoin_len (fun m => (codeR.bd m).1)
   have hS25 := St.comp hS ho31 rfl; clear hS
   simp only [List.cons_append, List.nil_append] at hS25
   refine q_step (v := .tuple #[.int .i64 ((F_s_DrawJoinFormulas code).1), .slice b27 (((F_s_DrawJoinFormulas code).2.1).length / 2 : Nat) c28, .slice b29 (((F_s_DrawJoinFormulas code).2.2).length / 2 : Nat) c30]) hE24 (y_move rfl) rfl rfl rfl ?_; intro a34 hE35; clear hE24
   refine q_step (v := .int .i64 ((F_s_DrawJoinFormulas code).1)) hE35 (y_extract rfl rfl) rfl rfl rfl ?_; intro a36 hE37; clear hE35
   refine q_step (v := .slice b27 (((F_s_DrawJoinFormulas code).2.1).length / 2 : Nat) c28) hE37 (y_extract rfl rfl) rfl rfl rfl ?_; intro a38 hE39; clear hE37
   refine q_step (v := .slice b29 (((F_s_DrawJoinFormulas code).2.2).length / 2 : Nat) c30) hE39 (y_extract rfl rfl) rfl rfl rfl ?_; intro a40 hE41; clear hE39
   refine q_step (v := .int .i64 ((F_s_DrawJoinFormulas code).1)) hE41 (y_assign rfl) rfl rfl rfl ?_; intro a42 hE43; clear hE41
   refine q_step (v := .slice b27 (((F_s_DrawJoinFormulas code).2.1).length / 2 : Nat) c28) hE43 (y_assign rfl) rfl rfl rfl ?_; intro a44 hE45; clear hE43
   refine q_step (v := .slice b29 (((F_s_DrawJoinFormulas code).2.2).length / 2 : Nat) c30) hE45 (y_assign rfl) rfl rfl rfl ?_; intro a46 hE47; clear hE45
   refine c_nil ?_
   have hE48 := hE47.sub (L' := [(3, .int .i64 ((F_s_DrawJoinFormulas code).1)), (4, .slice b27 (((F_s_DrawJoinFormulas code).2.1).length / 2 : Nat) c28), (5, .slice b29 (((F_s_DrawJoinFormulas code).2.2).length / 2 : Nat) c30)]) ⟨rfl, rfl, rfl, trivial⟩; clear hE47
   refine p_tn ?_
   refine c_seq ?_
   refine c_reg ?_
   refine q_step (v := .int .i64 ((F_s_DrawJoinFormulas code).1)) hE48 (y_move rfl) rfl rfl rfl ?_; intro a49 hE50; clear hE48
   refine q_step (v := .slice b27 (((F_s_DrawJoinFormulas code).2.1).length / 2 : Nat) c28) hE50 (y_move rfl) rfl rfl rfl ?_; intro a51 hE52; clear hE50
   refine q_step (v := .slice b29 (((F_s_DrawJoinFormulas code).2.2).length / 2 : Nat) c30) hE52 (y_move rfl) rfl rfl rfl ?_; intro a53 hE54; clear hE52
   refine l_step hE54 rfl (l_call (f := 61) (argv := [.int .i64 ((F_s_DrawJoinFormulas code).1), .slice b27 (((F_s_DrawJoinFormulas code).2.1).length / 2 : Nat) c28, .slice b29 (((F_s_DrawJoinFormulas code).2.2).length / 2 : Nat) c30]) hE54 (fun _ => cf_JoinFormulas _ _) rfl rfl (c_JoinFormulas ((F_s_DrawJoinFormulas code).1) b27 (((F_s_DrawJoinFormulas code).2.1).length / 2 : Nat) c28 ((F_s_DrawJoinFormulas code).2.1) b29 (((F_s_DrawJoinFormulas code).2.2).length / 2 : Nat) c30 ((F_s_DrawJoinFormulas code).2.2) w22 (St.rdO (i := 0) hS25 rfl) (St.rdO (i := 1) hS25 rfl) (by omega) (by omega)) ?_)
   rintro _ w56 ⟨b61, c62, rfl, ho63, he60⟩ a57 hE58; clear hE54
   have hf64 := JoinFormulas_len ((F_s_DrawJoinFormulas code).1) ((F_s_DrawJoinFormulas code).2.1) ((F_s_DrawJoinFormulas code).2.2)
   have hf65 := JoinFormulas_ev ((F_s_DrawJoinFormulas code).1) ((F_s_DrawJoinFormulas code).2.1) ((F_s_DrawJoinFormulas code).2.2) (by omega) (by omega)
   have hS59 := St.own hS25 he60 ho63; clear hS25
   refine q_step (v := .tuple #[.slice b61 (((F_JoinFormulas ((F_s_DrawJoinFormulas code).1) ((F_s_DrawJoinFormulas code).2.1) ((F_s_DrawJoinFormulas code).2.2)).1).length / 2 : Nat) c62, .int .i64 ((F_JoinFormulas ((F_s_DrawJoinFormulas code).1) ((F_s_DrawJoinFormulas code).2.1) ((F_s_DrawJoinFormulas code).2.2)).2)]) hE58 (y_move rfl) rfl rfl rfl ?_; intro a66 hE67; clear hE58
   refine q_step (v := .slice b61 (((F_JoinFormulas ((F_s_DrawJoinFormulas code).1) ((F_s_DrawJoinFormulas code).2.1) ((F_s_DrawJoinFormulas code).2.2)).1).length / 2 : Nat) c62) hE67 (y_extract rfl rfl) rfl rfl rfl ?_; intro a68 hE69; clear hE67
   refine q_step (v := .int .i64 ((F_JoinFormulas ((F_s_DrawJoinFormulas code).1) ((F_s_DrawJoinFormulas code).2.1) ((F_s_DrawJoinFormulas code).2.2)).2)) hE69 (y_extract rfl rfl) rfl rfl rfl ?_; intro a70 hE71; clear hE69
   refine q_step (v := .slice b61 (((F_JoinFormulas ((F_s_DrawJoinFormulas code).1) ((F_s_DrawJoinFormulas code).2.1) ((F_s_DrawJoinFormulas code).2.2)).1).length / 2 : Nat) c62) hE71 (y_assign rfl) rfl rfl rfl ?_; intro a72 hE73; clear hE71
   refine q_step (v := .int .i64 ((F_JoinFormulas ((F_s_DrawJoinFormulas code).1) ((F_s_DrawJoinFormulas code).2.1) ((F_s_DrawJoinFormulas code).2.2)).2)) hE73 (y_assign rfl) rfl rfl rfl ?_; intro a74 hE75; clear hE73
   refine c_nil ?_
   have hE76 := hE75.sub (L' := [(3, .int .i64 ((F_s_DrawJoinFormulas code).1)), (4, .slice b27 (((F_s_DrawJoinFormulas code).2.1).length / 2 : Nat) c28), (5, .slice b29 (((F_s_DrawJoinFormulas code).2.2).length / 2 : Nat) c30), (6, .slice b61 (((F_JoinFormulas ((F_s_DrawJoinFormulas code).1) ((F_s_DrawJoinFormulas code).2.1) ((F_s_DrawJoinFormulas code).2.2)).1).length / 2 : Nat) c62), (7, .int .i64 ((F_JoinFormulas ((F_s_DrawJoinFormulas code).1) ((F_s_DrawJoinFormulas code).2.1) ((F_s_DrawJoinFormulas code).2.2)).2))]) ⟨rfl, rfl, rfl, rfl, rfl, trivial⟩; clear hE75
   refine p_tn ?_
   refine c_seq ?_
   refine c_reg ?_
   refine q_step (v := .int .i64 ((F_s_DrawJoinFormulas code).1)) hE76 (y_move rfl) rfl rfl rfl ?_; intro a77 hE78; clear hE76
   refine q_step (v := .slice b27 (((F_s_DrawJoinFormulas code).2.1).length / 2 : Nat) c28) hE78 (y_move rfl) rfl rfl rfl ?_; intro a79 hE80; clear hE78
   refine q_step (v := .slice b29 (((F_s_DrawJoinFormulas code).2.2).length / 2 : Nat) c30) hE80 (y_move rfl) rfl rfl rfl ?_; intro a81 hE82; clear hE80
   refine l_step hE82 rfl (l_call (f := 62) (argv := [.int .i64 ((F_s_DrawJoinFormulas code).1), .slice b27 (((F_s_DrawJoinFormulas code).2.1).length / 2 : Nat) c28, .slice b29 (((F_s_DrawJoinFormulas code).2.2).length / 2 : Nat) c30]) hE82 (fun _ => cf_s_JoinFormulas _ _) rfl rfl (c_s_JoinFormulas ((F_s_DrawJoinFormulas code).1) b27 (((F_s_DrawJoinFormulas code).2.1).length / 2 : Nat) c28 ((F_s_DrawJoinFormulas code).2.1) b29 (((F_s_DrawJoinFormulas code).2.2).length / 2 : Nat) c30 ((F_s_DrawJoinFormulas code).2.2) w56 (St.rdO (i := 1) hS59 rfl) (St.rdO (i := 2) hS59 rfl) (by omega) (by omega)) ?_)
   rintro _ w84 ⟨b89, c90, rfl, ho91, he88⟩ a85 hE86; clear hE82
   have hf92 := s_JoinFormulas_len ((F_s_DrawJoinFormulas code).1) ((F_s_DrawJoinFormulas code).2.1) ((F_s_DrawJoinFormulas code).2.2)
   have hS87 := St.own hS59 he88 ho91; clear hS59
   refine q_step (v := .tuple #[.slice b89 (((F_s_JoinFormulas ((F_s_DrawJoinFormulas code).1) ((F_s_DrawJoinFormulas code).2.1) ((F_s_DrawJoinFormulas code).2.2)).1).length / 2 : Nat) c90, .int .i64 ((F_s_JoinFormulas ((F_s_DrawJoinFormulas code).1) ((F_s_DrawJoinFormulas code).2.1) ((F_s_DrawJoinFormulas code).2.2)).2)]) hE86 (y_move rfl) rfl rfl rfl ?_; intro a93 hE94; clear hE86
   refine q_step (v := .slice b89 (((F_s_JoinFormulas ((F_s_DrawJoinFormulas code).1) ((F_s_DrawJoinFormulas code).2.1) ((F_s_DrawJoinFormulas code).2.2)).1).length / 2 : Nat) c90) hE94 (y_extract rfl rfl) rfl rfl rfl ?_; intro a95 hE96; clear hE94
   refine q_step (v := .int .i64 ((F_s_JoinFormulas ((F_s_DrawJoinFormulas code).1) ((F_s_DrawJoinFormulas code).2.1) ((F_s_DrawJoinFormulas code).2.2)).2)) hE96 (y_extract rfl rfl) rfl rfl rfl ?_; intro a97 hE98; clear hE96
   refine q_step (v := .slice b89 (((F_s_JoinFormulas ((F_s_DrawJoinFormulas code).1) ((F_s_DrawJoinFormulas code).2.1) ((F_s_DrawJoinFormulas code).2.2)).1).length / 2 : Nat) c90) hE98 (y_assign rfl) rfl rfl rfl ?_; intro a99 hE100; clear hE98
   refine q_step (v := .int .i64 ((F_s_JoinFormulas ((F_s_DrawJoinFormulas code).1) ((F_s_DrawJoinFormulas code).2.1) ((F_s_DrawJoinFormulas code).2.2)).2)) hE100 (y_assign rfl) rfl rfl rfl ?_; intro a101 hE102; clear hE100
   refine c_nil ?_
   have hE103 := hE102.sub (L' := [(3, .int .i64 ((F_s_DrawJoinFormulas code).1)), (4, .slice b27 (((F_s_DrawJoinFormulas code).2.1).length / 2 : Nat) c28), (5, .slice b29 (((F_s_DrawJoinFormulas code).2.2).length / 2 : Nat) c30), (6, .slice b61 (((F_JoinFormulas ((F_s_DrawJoinFormulas code).1) ((F_s_DrawJoinFormulas code).2.1) ((F_s_DrawJoinFormulas code).2.2)).1).length / 2 : Nat) c62), (7, .int .i64 ((F_JoinFormulas ((F_s_DrawJoinFormulas code).1) ((F_s_DrawJoinFormulas code).2.1) ((F_s_DrawJoinFormulas code).2.2)).2)), (8, .slice b89 (((F_s_JoinFormulas ((F_s_DrawJoinFormulas code).1) ((F_s_DrawJoinFormulas code).2.1) ((F_s_DrawJoinFormulas code).2.2)).1).length / 2 : Nat) c90), (9, .int .i64 ((F_s_JoinFormulas ((F_s_DrawJoinFormulas code).1) ((F_s_DrawJoinFormulas code).2.1) ((F_s_DrawJoinFormulas code).2.2)).2))]) ⟨rfl, rfl, rfl, rfl, rfl, rfl, rfl, trivial⟩; clear hE102
   refine p_tn ?_
   refine c_seq ?_
   refine c_seq ?_
   refine c_reg ?_
   refine q_step (v := .int .i64 ((F_JoinFormulas ((F_s_DrawJoinFormulas code).1) ((F_s_DrawJoinFormulas code).2.1) ((F_s_DrawJoinFormulas code).2.2)).2)) hE103 (y_move rfl) rfl rfl rfl ?_; intro a104 hE105; clear hE103
   refine q_step (v := .int .i64 ((F_s_JoinFormulas ((F_s_DrawJoinFormulas code).1) ((F_s_DrawJoinFormulas code).2.1) ((F_s_DrawJoinFormulas code).2.2)).2)) hE105 (y_move rfl) rfl rfl rfl ?_; intro a106 hE107; clear hE105
   refine q_step (v := .bool (!decide (((F_JoinFormulas ((F_s_DrawJoinFormulas code).1) ((F_s_DrawJoinFormulas code).2.1) ((F_s_DrawJoinFormulas code).2.2)).2) = ((F_s_JoinFormulas ((F_s_DrawJoinFormulas code).1) ((F_s_DrawJoinFormulas code).2.1) ((F_s_DrawJoinFormulas code).2.2)).2)))) hE107 (y_neq rfl rfl) rfl rfl rfl ?_; intro a108 hE109; clear hE107
   refine q_step (v := .bool (!decide (((F_JoinFormulas ((F_s_DrawJoinFormulas code).1) ((F_s_DrawJoinFormulas code).2.1) ((F_s_DrawJoinFormulas code).2.2)).2) = ((F_s_JoinFormulas ((F_s_DrawJoinFormulas code).1) ((F_s_DrawJoinFormulas code).2.1) ((F_s_DrawJoinFormulas code).2.2)).2)))) hE109 (y_move rfl) rfl rfl rfl ?_; intro a110 hE111; clear hE109
   rcases Bool.eq_false_or_eq_true (!decide (((F_JoinFormulas ((F_s_DrawJoinFormulas code).1) ((F_s_DrawJoinFormulas code).2.1) ((F_s_DrawJoinFormulas code).2.2)).2) = ((F_s_JoinFormulas ((F_s_DrawJoinFormulas code).1) ((F_s_DrawJoinFormulas code).2.1) ((F_s_DrawJoinFormulas code).2.2)).2))) with hb112 | hb112
   ·
    have hE113 := hE111; (try rw [hb112] at hE113); clear hE111
    have ht114 := bn_t hb112
    have hp115 := of_decide_eq_false ht114
    refine q_skip hE113 rfl rfl rfl ?_; intro a116 hE117; clear hE113
    refine q_skip hE117 rfl rfl rfl ?_; intro a118 hE119; clear hE117
    refine q_skip hE119 rfl rfl rfl ?_; intro a120 hE121; clear hE119
    refine q_skip hE121 rfl rfl rfl ?_; intro a122 hE123; clear hE121
    refine q_step (v := .bool true) hE123 (y_pick (b := true) rfl rfl) rfl rfl rfl ?_; intro a124 hE125; clear hE123
    refine c_nil ?_
    have hE126 := hE125.sub (L' := [(3, .int .i64 ((F_s_DrawJoinFormulas code).1)), (4, .slice b27 (((F_s_DrawJoinFormulas code).2.1).length / 2 : Nat) c28), (5, .slice b29 (((F_s_DrawJoinFormulas code).2.2).length / 2 : Nat) c30), (6, .slice b61 (((F_JoinFormulas ((F_s_DrawJoinFormulas code).1) ((F_s_DrawJoinFormulas code).2.1) ((F_s_DrawJoinFormulas code).2.2)).1).length / 2 : Nat) c62), (7, .int .i64 ((F_JoinFormulas ((F_s_DrawJoinFormulas code).1) ((F_s_DrawJoinFormulas code).2.1) ((F_s_DrawJoinFormulas code).2.2)).2)), (59, .bool true)]) ⟨rfl, rfl, rfl, rfl, rfl, rfl, trivial⟩; clear hE125
    refine p_tn ?_
    refine c_true hE126 rfl ?_
    refine c_seq ?_
    refine c_reg ?_
    refine q_step (v := .bool false) hE126 (y_assign rfl) rfl rfl rfl ?_; intro a127 hE128; clear hE126
    refine c_nil ?_
    have hE129 := hE128.sub (L' := [(2, .bool false)]) ⟨rfl, trivial⟩; clear hE128
    refine p_tn ?_
    refine wp_ret ?_
    refine p_tr ?_
    have hF : F_l_FnBuilding code = false := by unfold F_l_FnBuilding; rw [hb112, ht13]; first | done | rfl
    refine c_ret1 hE129 rfl rfl ?_
    exact ⟨(by rw [hF]; first | done | (dsimp only; done) | rfl), hS87.ext⟩
   ·
    have hE130 := hE111; (try rw [hb112] at hE130); clear hE111
    have ht131 := bn_f hb112
    have hp132 := of_decide_eq_true ht131
    refine q_step (v := .slice b61 (((F_JoinFormulas ((F_s_DrawJoinFormulas code).1) ((F_s_DrawJoinFormulas code).2.1) ((F_s_DrawJoinFormulas code).2.2)).1).length / 2 : Nat) c62) hE130 (y_move rfl) rfl rfl rfl ?_; intro a133 hE134; clear hE130
    refine q_step (v := .slice b89 (((F_s_JoinFormulas ((F_s_DrawJoinFormulas code).1) ((F_s_DrawJoinFormulas code).2.1) ((F_s_DrawJoinFormulas code).2.2)).1).length / 2 : Nat) c90) hE134 (y_move rfl) rfl rfl rfl ?_; intro a135 hE136; clear hE134
    refine l_step hE136 rfl (l_call (f := 63) (argv := [.slice b61 (((F_JoinFormulas ((F_s_DrawJoinFormulas code).1) ((F_s_DrawJoinFormulas code).2.1) ((F_s_DrawJoinFormulas code).2.2)).1).length / 2 : Nat) c62, .slice b89 (((F_s_JoinFormulas ((F_s_DrawJoinFormulas code).1) ((F_s_DrawJoinFormulas code).2.1) ((F_s_DrawJoinFormulas code).2.2)).1).length / 2 : Nat) c90]) hE136 (fun _ => cf_l_sameNodes9 _ _) rfl rfl (c_l_sameNodes9 b61 (((F_JoinFormulas ((F_s_DrawJoinFormulas code).1) ((F_s_DrawJoinFormulas code).2.1) ((F_s_DrawJoinFormulas code).2.2)).1).length / 2 : Nat) c62 ((F_JoinFormulas ((F_s_DrawJoinFormulas code).1) ((F_s_DrawJoinFormulas code).2.1) ((F_s_DrawJoinFormulas code).2.2)).1) b89 (((F_s_JoinFormulas ((F_s_DrawJoinFormulas code).1) ((F_s_DrawJoinFormulas code).2.1) ((F_s_DrawJoinFormulas code).2.2)).1).length / 2 : Nat) c90 ((F_s_JoinFormulas ((F_s_DrawJoinFormulas code).1) ((F_s_DrawJoinFormulas code).2.1) ((F_s_DrawJoinFormulas code).2.2)).1) w84 (St.rdO (i := 1) hS87 rfl) (St.rdO (i := 0) hS87 rfl)) ?_)
    rintro _ w138 ⟨rfl, he142⟩ a139 hE140; clear hE136
    have hS141 := St.go hS87 he142; clear hS87
    refine q_step (v := .bool (!(F_l_sameNodes9 ((F_JoinFormulas ((F_s_DrawJoinFormulas code).1) ((F_s_DrawJoinFormulas code).2.1) ((F_s_DrawJoinFormulas code).2.2)).1) ((F_s_JoinFormulas ((F_s_DrawJoinFormulas code).1) ((F_s_DrawJoinFormulas code).2.1) ((F_s_DrawJoinFormulas code).2.2)).1)))) hE140 (y_not rfl) rfl rfl rfl ?_; intro a143 hE144; clear hE140
    refine q_step (v := .bool (!(F_l_sameNodes9 ((F_JoinFormulas ((F_s_DrawJoinFormulas code).1) ((F_s_DrawJoinFormulas code).2.1) ((F_s_DrawJoinFormulas code).2.2)).1) ((F_s_JoinFormulas ((F_s_DrawJoinFormulas code).1) ((F_s_DrawJoinFormulas code).2.1) ((F_s_DrawJoinFormulas code).2.2)).1)))) hE144 (y_pick (b := false) rfl rfl) rfl rfl rfl ?_; intro a145 hE146; clear hE144
    refine c_nil ?_
    have hE147 := hE146.sub (L' := [(3, .int .i64 ((F_s_DrawJoinFormulas code).1)), (4, .slice b27 (((F_s_DrawJoinFormulas code).2.1).length / 2 : Nat) c28), (5, .slice b29 (((F_s_DrawJoinFormulas code).2.2).length / 2 : Nat) c30), (6, .slice b61 (((F_JoinFormulas ((F_s_DrawJoinFormulas code).1) ((F_s_DrawJoinFormulas code).2.1) ((F_s_DrawJoinFormulas code).2.2)).1).length / 2 : Nat) c62), (7, .int .i64 ((F_JoinFormulas ((F_s_DrawJoinFormulas code).1) ((F_s_DrawJoinFormulas code).2.1) ((F_s_DrawJoinFormulas code).2.2)).2)), (59, .bool (!(F_l_sameNodes9 ((F_JoinFormulas ((F_s_DrawJoinFormulas code).1) ((F_s_DrawJoinFormulas code).2.1) ((F_s_DrawJoinFormulas code).2.2)).1) ((F_s_JoinFormulas ((F_s_DrawJoinFormulas code).1) ((F_s_DrawJoinFormulas code).2.1) ((F_s_DrawJoinFormulas code).2.2)).1))))]) ⟨rfl, rfl, rfl, rfl, rfl, rfl, trivial⟩; clear hE146
    refine p_tn ?_
    refine c_cond hE147 rfl (fun ht148 => ?_) (fun ht148 => ?_)
    ·
     have ht149 := bn_t ht148
     have hE150 := hE147; rw [ht148] at hE150; clear hE147
     refine c_seq ?_
     refine c_reg ?_
     refine q_step (v := .bool false) hE150 (y_assign rfl) rfl rfl rfl ?_; intro a151 hE152; clear hE150
     refine c_nil ?_
     have hE153 := hE152.sub (L' := [(2, .bool false)]) ⟨rfl, trivial⟩; clear hE152
     refine p_tn ?_
     refine wp_ret ?_
     refine p_tr ?_
     have hF : F_l_FnBuilding code = false := by unfold F_l_FnBuilding; rw [ht148, hb112, ht13]; first | done | rfl
     refine c_ret1 hE153 rfl rfl ?_
     exact ⟨(by rw [hF]; first | done | (dsimp only; done) | rfl), hS141.ext⟩
    ·
     have ht154 := bn_f ht148
     have hE155 := hE147; rw [ht148] at hE155; clear hE147
     refine wp_skip ?_
     refine p_tn ?_
     refine c_seq ?_
     refine c_seq ?_
     refine c_reg ?_
     refine q_step (v := .int .i64 ((F_JoinFormulas ((F_s_DrawJoinFormulas code).1) ((F_s_DrawJoinFormulas code).2.1) ((F_s_DrawJoinFormulas code).2.2)).2)) hE155 (y_move rfl) rfl rfl rfl ?_; intro a156 hE157; clear hE155
     refine q_step (v := .bool (!decide (((F_JoinFormulas ((F_s_DrawJoinFormulas code).1) ((F_s_DrawJoinFormulas code).2.1) ((F_s_DrawJoinFormulas code).2.2)).2) = 0))) hE157 (y_neq rfl rfl) rfl rfl rfl ?_; intro a158 hE159; clear hE157
     refine c_nil ?_
     have hE160 := hE159.sub (L' := [(3, .int .i64 ((F_s_DrawJoinFormulas code).1)), (4, .slice b27 (((F_s_DrawJoinFormulas code).2.1).length / 2 : Nat) c28), (5, .slice b29 (((F_s_DrawJoinFormulas code).2.2).length / 2 : Nat) c30), (6, .slice b61 (((F_JoinFormulas ((F_s_DrawJoinFormulas code).1) ((F_s_DrawJoinFormulas code).2.1) ((F_s_DrawJoinFormulas code).2.2)).1).length / 2 : Nat) c62), (61, .bool (!decide (((F_JoinFormulas ((F_s_DrawJoinFormulas code).1) ((F_s_DrawJoinFormulas code).2.1) ((F_s_DrawJoinFormulas code).2.2)).2) = 0)))]) ⟨rfl, rfl, rfl, rfl, rfl, trivial⟩; clear hE159
     refine p_tn ?_
     refine c_cond hE160 rfl (fun ht161 => ?_) (fun ht161 => ?_)
     ·
      have ht162 := bn_t ht161
      have hp163 := of_decide_eq_false ht162
      have hE164 := hE160; rw [ht161] at hE164; clear hE160
      refine c_seq ?_
      refine c_reg ?_
      refine q_step (v := .slice b61 (((F_JoinFormulas ((F_s_DrawJoinFormulas code).1) ((F_s_DrawJoinFormulas code).2.1) ((F_s_DrawJoinFormulas code).2.2)).1).length / 2 : Nat) c62) hE164 (y_move rfl) rfl rfl rfl ?_; intro a165 hE166; clear hE164
      refine q_step (v := .int .i64 ((((F_JoinFormulas ((F_s_DrawJoinFormulas code).1) ((F_s_DrawJoinFormulas code).2.1) ((F_s_DrawJoinFormulas code).2.2)).1).length / 2 : Nat) : Int)) hE166 (y_len (e := 94) (by kernel_rfl) rfl) rfl rfl rfl ?_; intro a167 hE168; clear hE166
      refine q_step (v := .bool (decide (((((F_JoinFormulas ((F_s_DrawJoinFormulas code).1) ((F_s_DrawJoinFormulas code).2.1) ((F_s_DrawJoinFormulas code).2.2)).1).length / 2 : Nat) : Int) = 0))) hE168 (y_eql rfl rfl) rfl rfl rfl ?_; intro a169 hE170; clear hE168
      refine q_step (v := .bool (decide (((((F_JoinFormulas ((F_s_DrawJoinFormulas code).1) ((F_s_DrawJoinFormulas code).2.1) ((F_s_DrawJoinFormulas code).2.2)).1).length / 2 : Nat) : Int) = 0))) hE170 (y_assign rfl) rfl rfl rfl ?_; intro a171 hE172; clear hE170
      refine c_nil ?_
      have hE173 := hE172.sub (L' := [(2, .bool (decide (((((F_JoinFormulas ((F_s_DrawJoinFormulas code).1) ((F_s_DrawJoinFormulas code).2.1) ((F_s_DrawJoinFormulas code).2.2)).1).length / 2 : Nat) : Int) = 0)))]) ⟨rfl, trivial⟩; clear hE172
      refine p_tn ?_
      refine wp_ret ?_
      refine p_tr ?_
      have hF : F_l_FnBuilding code = decide (((((F_JoinFormulas ((F_s_DrawJoinFormulas code).1) ((F_s_DrawJoinFormulas code).2.1) ((F_s_DrawJoinFormulas code).2.2)).1).length / 2 : Nat) : Int) = 0) := by unfold F_l_FnBuilding; rw [ht161, ht148, hb112, ht13]; first | done | rfl
      refine c_ret1 hE173 rfl rfl ?_
      exact ⟨(by rw [hF]; first | done | (dsimp only; done) | rfl), hS141.ext⟩
     ·
      have ht174 := bn_f ht161
      have hp175 := of_decide_eq_true ht174
      have hE176 := hE160; rw [ht161] at hE176; clear hE160
      refine wp_skip ?_
      refine p_tn ?_
      refine c_seq ?_
      refine c_reg ?_
      refine q_step (v := .slice b27 (((F_s_DrawJoinFormulas code).2.1).length / 2 : Nat) c28) hE176 (y_move rfl) rfl rfl rfl ?_; intro a177 hE178; clear hE176
      refine l_step hE178 rfl (l_call (f := 64) (argv := [.slice b27 (((F_s_DrawJoinFormulas code).2.1).length / 2 : Nat) c28]) hE178 (fun _ => cf_KindCounts _ _) rfl rfl (c_KindCounts b27 (((F_s_DrawJoinFormulas code).2.1).length / 2 : Nat) c28 ((F_s_DrawJoinFormulas code).2.1) w138 (St.rdO (i := 2) hS141 rfl) (by omega)) ?_)
      rintro _ w180 ⟨b185, c186, rfl, ho187, he184⟩ a181 hE182; clear hE178
      have hf188 := KindCounts_len ((F_s_DrawJoinFormulas code).2.1)
      have hf189 := KindCounts_cd ((F_s_DrawJoinFormulas code).2.1)
      have hS183 := St.own hS141 he184 ho187; clear hS141
      refine q_step (v := .tuple #[.slice b185 (((F_KindCounts ((F_s_DrawJoinFormulas code).2.1)).1).length) c186, .int .i64 ((F_KindCounts ((F_s_DrawJoinFormulas code).2.1)).2)]) hE182 (y_move rfl) rfl rfl rfl ?_; intro a190 hE191; clear hE182
      refine q_step (v := .slice b185 (((F_KindCounts ((F_s_DrawJoinFormulas code).2.1)).1).length) c186) hE191 (y_extract rfl rfl) rfl rfl rfl ?_; intro a192 hE193; clear hE191
      refine q_step (v := .int .i64 ((F_KindCounts ((F_s_DrawJoinFormulas code).2.1)).2)) hE193 (y_extract rfl rfl) rfl rfl rfl ?_; intro a194 hE195; clear hE193
      refine q_step (v := .slice b185 (((F_KindCounts ((F_s_DrawJoinFormulas code).2.1)).1).length) c186) hE195 (y_assign rfl) rfl rfl rfl ?_; intro a196 hE197; clear hE195
      refine q_step (v := .int .i64 ((F_KindCounts ((F_s_DrawJoinFormulas code).2.1)).2)) hE197 (y_assign rfl) rfl rfl rfl ?_; intro a198 hE199; clear hE197
      refine c_nil ?_
      have hE200 := hE199.sub (L' := [(3, .int .i64 ((F_s_DrawJoinFormulas code).1)), (4, .slice b27 (((F_s_DrawJoinFormulas code).2.1).length / 2 : Nat) c28), (5, .slice b29 (((F_s_DrawJoinFormulas code).2.2).length / 2 : Nat) c30), (6, .slice b61 (((F_JoinFormulas ((F_s_DrawJoinFormulas code).1) ((F_s_DrawJoinFormulas code).2.1) ((F_s_DrawJoinFormulas code).2.2)).1).length / 2 : Nat) c62), (10, .slice b185 (((F_KindCounts ((F_s_DrawJoinFormulas code).2.1)).1).length) c186), (11, .int .i64 ((F_KindCounts ((F_s_DrawJoinFormulas code).2.1)).2))]) ⟨rfl, rfl, rfl, rfl, rfl, rfl, trivial⟩; clear hE199
      refine p_tn ?_
      refine c_seq ?_
      refine c_reg ?_
      refine q_step (v := .slice b29 (((F_s_DrawJoinFormulas code).2.2).length / 2 : Nat) c30) hE200 (y_move rfl) rfl rfl rfl ?_; intro a201 hE202; clear hE200
      refine l_step hE202 rfl (l_call (f := 64) (argv := [.slice b29 (((F_s_DrawJoinFormulas code).2.2).length / 2 : Nat) c30]) hE202 (fun _ => cf_KindCounts _ _) rfl rfl (c_KindCounts b29 (((F_s_DrawJoinFormulas code).2.2).length / 2 : Nat) c30 ((F_s_DrawJoinFormulas code).2.2) w180 (St.rdO (i := 4) hS183 rfl) (by omega)) ?_)
      rintro _ w204 ⟨b209, c210, rfl, ho211, he208⟩ a205 hE206; clear hE202
      have hf212 := KindCounts_len ((F_s_DrawJoinFormulas code).2.2)
      have hf213 := KindCounts_cd ((F_s_DrawJoinFormulas code).2.2)
      have hS207 := St.own hS183 he208 ho211; clear hS183
      refine q_step (v := .tuple #[.slice b209 (((F_KindCounts ((F_s_DrawJoinFormulas code).2.2)).1).length) c210, .int .i64 ((F_KindCounts ((F_s_DrawJoinFormulas code).2.2)).2)]) hE206 (y_move rfl) rfl rfl rfl ?_; intro a214 hE215; clear hE206
      refine q_step (v := .slice b209 (((F_KindCounts ((F_s_DrawJoinFormulas code).2.2)).1).length) c210) hE215 (y_extract rfl rfl) rfl rfl rfl ?_; intro a216 hE217; clear hE215
      refine q_step (v := .int .i64 ((F_KindCounts ((F_s_DrawJoinFormulas code).2.2)).2)) hE217 (y_extract rfl rfl) rfl rfl rfl ?_; intro a218 hE219; clear hE217
      refine q_step (v := .slice b209 (((F_KindCounts ((F_s_DrawJoinFormulas code).2.2)).1).length) c210) hE219 (y_assign rfl) rfl rfl rfl ?_; intro a220 hE221; clear hE219
      refine q_step (v := .int .i64 ((F_KindCounts ((F_s_DrawJoinFormulas code).2.2)).2)) hE221 (y_assign rfl) rfl rfl rfl ?_; intro a222 hE223; clear hE221
      refine c_nil ?_
      have hE224 := hE223.sub (L' := [(3, .int .i64 ((F_s_DrawJoinFormulas code).1)), (4, .slice b27 (((F_s_DrawJoinFormulas code).2.1).length / 2 : Nat) c28), (5, .slice b29 (((F_s_DrawJoinFormulas code).2.2).length / 2 : Nat) c30), (6, .slice b61 (((F_JoinFormulas ((F_s_DrawJoinFormulas code).1) ((F_s_DrawJoinFormulas code).2.1) ((F_s_DrawJoinFormulas code).2.2)).1).length / 2 : Nat) c62), (10, .slice b185 (((F_KindCounts ((F_s_DrawJoinFormulas code).2.1)).1).length) c186), (11, .int .i64 ((F_KindCounts ((F_s_DrawJoinFormulas code).2.1)).2)), (12, .slice b209 (((F_KindCounts ((F_s_DrawJoinFormulas code).2.2)).1).length) c210), (13, .int .i64 ((F_KindCounts ((F_s_DrawJoinFormulas code).2.2)).2))]) ⟨rfl, rfl, rfl, rfl, rfl, rfl, rfl, rfl, trivial⟩; clear hE223
      refine p_tn ?_
      refine c_seq ?_
      refine c_reg ?_
      refine q_step (v := .slice b61 (((F_JoinFormulas ((F_s_DrawJoinFormulas code).1) ((F_s_DrawJoinFormulas code).2.1) ((F_s_DrawJoinFormulas code).2.2)).1).length / 2 : Nat) c62) hE224 (y_move rfl) rfl rfl rfl ?_; intro a225 hE226; clear hE224
      refine l_step hE226 rfl (l_call (f := 64) (argv := [.slice b61 (((F_JoinFormulas ((F_s_DrawJoinFormulas code).1) ((F_s_DrawJoinFormulas code).2.1) ((F_s_DrawJoinFormulas code).2.2)).1).length / 2 : Nat) c62]) hE226 (fun _ => cf_KindCounts _ _) rfl rfl (c_KindCounts b61 (((F_JoinFormulas ((F_s_DrawJoinFormulas code).1) ((F_s_DrawJoinFormulas code).2.1) ((F_s_DrawJoinFormulas code).2.2)).1).length / 2 : Nat) c62 ((F_JoinFormulas ((F_s_DrawJoinFormulas code).1) ((F_s_DrawJoinFormulas code).2.1) ((F_s_DrawJoinFormulas code).2.2)).1) w204 (St.rdO (i := 3) hS207 rfl) (by omega)) ?_)
      rintro _ w228 ⟨b233, c234, rfl, ho235, he232⟩ a229 hE230; clear hE226
      have hf236 := KindCounts_len ((F_JoinFormulas ((F_s_DrawJoinFormulas code).1) ((F_s_DrawJoinFormulas code).2.1) ((F_s_DrawJoinFormulas code).2.2)).1)
      have hf237 := KindCounts_cd ((F_JoinFormulas ((F_s_DrawJoinFormulas code).1) ((F_s_DrawJoinFormulas code).2.1) ((F_s_DrawJoinFormulas code).2.2)).1)
      have hS231 := St.own hS207 he232 ho235; clear hS207
      refine q_step (v := .tuple #[.slice b233 (((F_KindCounts ((F_JoinFormulas ((F_s_DrawJoinFormulas code).1) ((F_s_DrawJoinFormulas code).2.1) ((F_s_DrawJoinFormulas code).2.2)).1)).1).length) c234, .int .i64 ((F_KindCounts ((F_JoinFormulas ((F_s_DrawJoinFormulas code).1) ((F_s_DrawJoinFormulas code).2.1) ((F_s_DrawJoinFormulas code).2.2)).1)).2)]) hE230 (y_move rfl) rfl rfl rfl ?_; intro a238 hE239; clear hE230
      refine q_step (v := .slice b233 (((F_KindCounts ((F_JoinFormulas ((F_s_DrawJoinFormulas code).1) ((F_s_DrawJoinFormulas code).2.1) ((F_s_DrawJoinFormulas code).2.2)).1)).1).length) c234) hE239 (y_extract rfl rfl) rfl rfl rfl ?_; intro a240 hE241; clear hE239
      refine q_step (v := .int .i64 ((F_KindCounts ((F_JoinFormulas ((F_s_DrawJoinFormulas code).1) ((F_s_DrawJoinFormulas code).2.1) ((F_s_DrawJoinFormulas code).2.2)).1)).2)) hE241 (y_extract rfl rfl) rfl rfl rfl ?_; intro a242 hE243; clear hE241
      refine q_step (v := .slice b233 (((F_KindCounts ((F_JoinFormulas ((F_s_DrawJoinFormulas code).1) ((F_s_DrawJoinFormulas code).2.1) ((F_s_DrawJoinFormulas code).2.2)).1)).1).length) c234) hE243 (y_assign rfl) rfl rfl rfl ?_; intro a244 hE245; clear hE243
      refine q_step (v := .int .i64 ((F_KindCounts ((F_JoinFormulas ((F_s_DrawJoinFormulas code).1) ((F_s_DrawJoinFormulas code).2.1) ((F_s_DrawJoinFormulas code).2.2)).1)).2)) hE245 (y_assign rfl) rfl rfl rfl ?_; intro a246 hE247; clear hE245
      refine c_nil ?_
      have hE248 := hE247.sub (L' := [(3, .int .i64 ((F_s_DrawJoinFormulas code).1)), (4, .slice b27 (((F_s_DrawJoinFormulas code).2.1).length / 2 : Nat) c28), (5, .slice b29 (((F_s_DrawJoinFormulas code).2.2).length / 2 : Nat) c30), (6, .slice b61 (((F_JoinFormulas ((F_s_DrawJoinFormulas code).1) ((F_s_DrawJoinFormulas code).2.1) ((F_s_DrawJoinFormulas code).2.2)).1).length / 2 : Nat) c62), (10, .slice b185 (((F_KindCounts ((F_s_DrawJoinFormulas code).2.1)).1).length) c186), (11, .int .i64 ((F_KindCounts ((F_s_DrawJoinFormulas code).2.1)).2)), (12, .slice b209 (((F_KindCounts ((F_s_DrawJoinFormulas code).2.2)).1).length) c210), (13, .int .i64 ((F_KindCounts ((F_s_DrawJoinFormulas code).2.2)).2)), (14, .slice b233 (((F_KindCounts ((F_JoinFormulas ((F_s_DrawJoinFormulas code).1) ((F_s_DrawJoinFormulas code).2.1) ((F_s_DrawJoinFormulas code).2.2)).1)).1).length) c234), (15, .int .i64 ((F_KindCounts ((F_JoinFormulas ((F_s_DrawJoinFormulas code).1) ((F_s_DrawJoinFormulas code).2.1) ((F_s_DrawJoinFormulas code).2.2)).1)).2))]) ⟨rfl, rfl, rfl, rfl, rfl, rfl, rfl, rfl, rfl, rfl, trivial⟩; clear hE247
      refine p_tn ?_
      refine c_seq ?_
      refine c_reg ?_
      refine q_step (v := .slice b61 (((F_JoinFormulas ((F_s_DrawJoinFormulas code).1) ((F_s_DrawJoinFormulas code).2.1) ((F_s_DrawJoinFormulas code).2.2)).1).length / 2 : Nat) c62) hE248 (y_move rfl) rfl rfl rfl ?_; intro a249 hE250; clear hE248
      refine l_step hE250 rfl (l_call (f := 23) (argv := [.slice b61 (((F_JoinFormulas ((F_s_DrawJoinFormulas code).1) ((F_s_DrawJoinFormulas code).2.1) ((F_s_DrawJoinFormulas code).2.2)).1).length / 2 : Nat) c62, .int .i64 1]) hE250 (fun _ => cf_PartEnd _ _) rfl rfl (c_PartEnd b61 (((F_JoinFormulas ((F_s_DrawJoinFormulas code).1) ((F_s_DrawJoinFormulas code).2.1) ((F_s_DrawJoinFormulas code).2.2)).1).length / 2 : Nat) c62 ((F_JoinFormulas ((F_s_DrawJoinFormulas code).1) ((F_s_DrawJoinFormulas code).2.1) ((F_s_DrawJoinFormulas code).2.2)).1) 1 w228 (St.rdO (i := 4) hS231 rfl) (by omega)) ?_)
      rintro _ w252 ⟨rfl, he256⟩ a253 hE254; clear hE250
      have hf257 := PartEnd_cd ((F_JoinFormulas ((F_s_DrawJoinFormulas code).1) ((F_s_DrawJoinFormulas code).2.1) ((F_s_DrawJoinFormulas code).2.2)).1) 1
      have hS255 := St.go hS231 he256; clear hS231
      refine q_step (v := .tuple #[.int .i64 ((F_PartEnd ((F_JoinFormulas ((F_s_DrawJoinFormulas code).1) ((F_s_DrawJoinFormulas code).2.1) ((F_s_DrawJoinFormulas code).2.2)).1) 1).1), .int .i64 ((F_PartEnd ((F_JoinFormulas ((F_s_DrawJoinFormulas code).1) ((F_s_DrawJoinFormulas code).2.1) ((F_s_DrawJoinFormulas code).2.2)).1) 1).2)]) hE254 (y_move rfl) rfl rfl rfl ?_; intro a258 hE259; clear hE254
      refine q_step (v := .int .i64 ((F_PartEnd ((F_JoinFormulas ((F_s_DrawJoinFormulas code).1) ((F_s_DrawJoinFormulas code).2.1) ((F_s_DrawJoinFormulas code).2.2)).1) 1).1)) hE259 (y_extract rfl rfl) rfl rfl rfl ?_; intro a260 hE261; clear hE259
      refine q_step (v := .int .i64 ((F_PartEnd ((F_JoinFormulas ((F_s_DrawJoinFormulas code).1) ((F_s_DrawJoinFormulas code).2.1) ((F_s_DrawJoinFormulas code).2.2)).1) 1).2)) hE261 (y_extract rfl rfl) rfl rfl rfl ?_; intro a262 hE263; clear hE261
      refine q_step (v := .int .i64 ((F_PartEnd ((F_JoinFormulas ((F_s_DrawJoinFormulas code).1) ((F_s_DrawJoinFormulas code).2.1) ((F_s_DrawJoinFormulas code).2.2)).1) 1).1)) hE263 (y_assign rfl) rfl rfl rfl ?_; intro a264 hE265; clear hE263
      refine q_step (v := .int .i64 ((F_PartEnd ((F_JoinFormulas ((F_s_DrawJoinFormulas code).1) ((F_s_DrawJoinFormulas code).2.1) ((F_s_DrawJoinFormulas code).2.2)).1) 1).2)) hE265 (y_assign rfl) rfl rfl rfl ?_; intro a266 hE267; clear hE265
      refine c_nil ?_
      have hE268 := hE267.sub (L' := [(3, .int .i64 ((F_s_DrawJoinFormulas code).1)), (4, .slice b27 (((F_s_DrawJoinFormulas code).2.1).length / 2 : Nat) c28), (5, .slice b29 (((F_s_DrawJoinFormulas code).2.2).length / 2 : Nat) c30), (6, .slice b61 (((F_JoinFormulas ((F_s_DrawJoinFormulas code).1) ((F_s_DrawJoinFormulas code).2.1) ((F_s_DrawJoinFormulas code).2.2)).1).length / 2 : Nat) c62), (10, .slice b185 (((F_KindCounts ((F_s_DrawJoinFormulas code).2.1)).1).length) c186), (11, .int .i64 ((F_KindCounts ((F_s_DrawJoinFormulas code).2.1)).2)), (12, .slice b209 (((F_KindCounts ((F_s_DrawJoinFormulas code).2.2)).1).length) c210), (13, .int .i64 ((F_KindCounts ((F_s_DrawJoinFormulas code).2.2)).2)), (14, .slice b233 (((F_KindCounts ((F_JoinFormulas ((F_s_DrawJoinFormulas code).1) ((F_s_DrawJoinFormulas code).2.1) ((F_s_DrawJoinFormulas code).2.2)).1)).1).length) c234), (15, .int .i64 ((F_KindCounts ((F_JoinFormulas ((F_s_DrawJoinFormulas code).1) ((F_s_DrawJoinFormulas code).2.1) ((F_s_DrawJoinFormulas code).2.2)).1)).2)), (16, .int .i64 ((F_PartEnd ((F_JoinFormulas ((F_s_DrawJoinFormulas code).1) ((F_s_DrawJoinFormulas code).2.1) ((F_s_DrawJoinFormulas code).2.2)).1) 1).1)), (17, .int .i64 ((F_PartEnd ((F_JoinFormulas ((F_s_DrawJoinFormulas code).1) ((F_s_DrawJoinFormulas code).2.1) ((F_s_DrawJoinFormulas code).2.2)).1) 1).2))]) ⟨rfl, rfl, rfl, rfl, rfl, rfl, rfl, rfl, rfl, rfl, rfl, rfl, trivial⟩; clear hE267
      refine p_tn ?_
      refine c_seq ?_
      refine c_reg ?_
      refine q_step (v := .slice b61 (((F_JoinFormulas ((F_s_DrawJoinFormulas code).1) ((F_s_DrawJoinFormulas code).2.1) ((F_s_DrawJoinFormulas code).2.2)).1).length / 2 : Nat) c62) hE268 (y_move rfl) rfl rfl rfl ?_; intro a269 hE270; clear hE268
      refine l_step hE270 rfl (l_call (f := 65) (argv := [.slice b61 (((F_JoinFormulas ((F_s_DrawJoinFormulas code).1) ((F_s_DrawJoinFormulas code).2.1) ((F_s_DrawJoinFormulas code).2.2)).1).length / 2 : Nat) c62]) hE270 (fun _ => cf_DepthsOf _ _) rfl rfl (c_DepthsOf b61 (((F_JoinFormulas ((F_s_DrawJoinFormulas code).1) ((F_s_DrawJoinFormulas code).2.1) ((F_s_DrawJoinFormulas code).2.2)).1).length / 2 : Nat) c62 ((F_JoinFormulas ((F_s_DrawJoinFormulas code).1) ((F_s_DrawJoinFormulas code).2.1) ((F_s_DrawJoinFormulas code).2.2)).1) w252 (St.rdO (i := 4) hS255 rfl) (by omega)) ?_)
      rintro _ w272 ⟨rfl, he276⟩ a273 hE274; clear hE270
      have hf277 := DepthsOf_bd ((F_JoinFormulas ((F_s_DrawJoinFormulas code).1) ((F_s_DrawJoinFormulas code).2.1) ((F_s_DrawJoinFormulas code).2.2)).1) (by omega)
      have hS275 := St.go hS255 he276; clear hS255
      refine q_step (v := .tuple #[.int .i64 ((F_DepthsOf ((F_JoinFormulas ((F_s_DrawJoinFormulas code).1) ((F_s_DrawJoinFormulas code).2.1) ((F_s_DrawJoinFormulas code).2.2)).1)).1), .int .i64 ((F_DepthsOf ((F_JoinFormulas ((F_s_DrawJoinFormulas code).1) ((F_s_DrawJoinFormulas code).2.1) ((F_s_DrawJoinFormulas code).2.2)).1)).2.1), .int .i64 ((F_DepthsOf ((F_JoinFormulas ((F_s_DrawJoinFormulas code).1) ((F_s_DrawJoinFormulas code).2.1) ((F_s_DrawJoinFormulas code).2.2)).1)).2.2)]) hE274 (y_move rfl) rfl rfl rfl ?_; intro a278 hE279; clear hE274
      refine q_step (v := .int .i64 ((F_DepthsOf ((F_JoinFormulas ((F_s_DrawJoinFormulas code).1) ((F_s_DrawJoinFormulas code).2.1) ((F_s_DrawJoinFormulas code).2.2)).1)).1)) hE279 (y_extract rfl rfl) rfl rfl rfl ?_; intro a280 hE281; clear hE279
      refine q_step (v := .int .i64 ((F_DepthsOf ((F_JoinFormulas ((F_s_DrawJoinFormulas code).1) ((F_s_DrawJoinFormulas code).2.1) ((F_s_DrawJoinFormulas code).2.2)).1)).2.1)) hE281 (y_extract rfl rfl) rfl rfl rfl ?_; intro a282 hE283; clear hE281
      refine q_step (v := .int .i64 ((F_DepthsOf ((F_JoinFormulas ((F_s_DrawJoinFormulas code).1) ((F_s_DrawJoinFormulas code).2.1) ((F_s_DrawJoinFormulas code).2.2)).1)).2.2)) hE283 (y_extract rfl rfl) rfl rfl rfl ?_; intro a284 hE285; clear hE283
      refine q_step (v := .int .i64 ((F_DepthsOf ((F_JoinFormulas ((F_s_DrawJoinFormulas code).1) ((F_s_DrawJoinFormulas code).2.1) ((F_s_DrawJoinFormulas code).2.2)).1)).1)) hE285 (y_assign rfl) rfl rfl rfl ?_; intro a286 hE287; clear hE285
      refine q_step (v := .int .i64 ((F_DepthsOf ((F_JoinFormulas ((F_s_DrawJoinFormulas code).1) ((F_s_DrawJoinFormulas code).2.1) ((F_s_DrawJoinFormulas code).2.2)).1)).2.1)) hE287 (y_assign rfl) rfl rfl rfl ?_; intro a288 hE289; clear hE287
      refine q_step (v := .int .i64 ((F_DepthsOf ((F_JoinFormulas ((F_s_DrawJoinFormulas code).1) ((F_s_DrawJoinFormulas code).2.1) ((F_s_DrawJoinFormulas code).2.2)).1)).2.2)) hE289 (y_assign rfl) rfl rfl rfl ?_; intro a290 hE291; clear hE289
      refine c_nil ?_
      have hE292 := hE291.sub (L' := [(3, .int .i64 ((F_s_DrawJoinFormulas code).1)), (4, .slice b27 (((F_s_DrawJoinFormulas code).2.1).length / 2 : Nat) c28), (5, .slice b29 (((F_s_DrawJoinFormulas code).2.2).length / 2 : Nat) c30), (10, .slice b185 (((F_KindCounts ((F_s_DrawJoinFormulas code).2.1)).1).length) c186), (11, .int .i64 ((F_KindCounts ((F_s_DrawJoinFormulas code).2.1)).2)), (12, .slice b209 (((F_KindCounts ((F_s_DrawJoinFormulas code).2.2)).1).length) c210), (13, .int .i64 ((F_KindCounts ((F_s_DrawJoinFormulas code).2.2)).2)), (14, .slice b233 (((F_KindCounts ((F_JoinFormulas ((F_s_DrawJoinFormulas code).1) ((F_s_DrawJoinFormulas code).2.1) ((F_s_DrawJoinFormulas code).2.2)).1)).1).length) c234), (15, .int .i64 ((F_KindCounts ((F_JoinFormulas ((F_s_DrawJoinFormulas code).1) ((F_s_DrawJoinFormulas code).2.1) ((F_s_DrawJoinFormulas code).2.2)).1)).2)), (16, .int .i64 ((F_PartEnd ((F_JoinFormulas ((F_s_DrawJoinFormulas code).1) ((F_s_DrawJoinFormulas code).2.1) ((F_s_DrawJoinFormulas code).2.2)).1) 1).1)), (17, .int .i64 ((F_PartEnd ((F_JoinFormulas ((F_s_DrawJoinFormulas code).1) ((F_s_DrawJoinFormulas code).2.1) ((F_s_DrawJoinFormulas code).2.2)).1) 1).2)), (18, .int .i64 ((F_DepthsOf ((F_JoinFormulas ((F_s_DrawJoinFormulas code).1) ((F_s_DrawJoinFormulas code).2.1) ((F_s_DrawJoinFormulas code).2.2)).1)).1)), (19, .int .i64 ((F_DepthsOf ((F_JoinFormulas ((F_s_DrawJoinFormulas code).1) ((F_s_DrawJoinFormulas code).2.1) ((F_s_DrawJoinFormulas code).2.2)).1)).2.1)), (20, .int .i64 ((F_DepthsOf ((F_JoinFormulas ((F_s_DrawJoinFormulas code).1) ((F_s_DrawJoinFormulas code).2.1) ((F_s_DrawJoinFormulas code).2.2)).1)).2.2))]) ⟨rfl, rfl, rfl, rfl, rfl, rfl, rfl, rfl, rfl, rfl, rfl, rfl, rfl, rfl, trivial⟩; clear hE291
      refine p_tn ?_
      refine c_seq ?_
      refine c_reg ?_
      refine q_step (v := .slice b27 (((F_s_DrawJoinFormulas code).2.1).length / 2 : Nat) c28) hE292 (y_move rfl) rfl rfl rfl ?_; intro a293 hE294; clear hE292
      refine l_step hE294 rfl (l_call (f := 65) (argv := [.slice b27 (((F_s_DrawJoinFormulas code).2.1).length / 2 : Nat) c28]) hE294 (fun _ => cf_DepthsOf _ _) rfl rfl (c_DepthsOf b27 (((F_s_DrawJoinFormulas code).2.1).length / 2 : Nat) c28 ((F_s_DrawJoinFormulas code).2.1) w272 (St.rdO (i := 5) hS275 rfl) (by omega)) ?_)
      rintro _ w296 ⟨rfl, he300⟩ a297 hE298; clear hE294
      have hf301 := DepthsOf_bd ((F_s_DrawJoinFormulas code).2.1) (by omega)
      have hS299 := St.go hS275 he300; clear hS275
      refine q_step (v := .tuple #[.int .i64 ((F_DepthsOf ((F_s_DrawJoinFormulas code).2.1)).1), .int .i64 ((F_DepthsOf ((F_s_DrawJoinFormulas code).2.1)).2.1), .int .i64 ((F_DepthsOf ((F_s_DrawJoinFormulas code).2.1)).2.2)]) hE298 (y_move rfl) rfl rfl rfl ?_; intro a302 hE303; clear hE298
      refine q_step (v := .int .i64 ((F_DepthsOf ((F_s_DrawJoinFormulas code).2.1)).1)) hE303 (y_extract rfl rfl) rfl rfl rfl ?_; intro a304 hE305; clear hE303
      refine q_step (v := .int .i64 ((F_DepthsOf ((F_s_DrawJoinFormulas code).2.1)).2.1)) hE305 (y_extract rfl rfl) rfl rfl rfl ?_; intro a306 hE307; clear hE305
      refine q_step (v := .int .i64 ((F_DepthsOf ((F_s_DrawJoinFormulas code).2.1)).2.2)) hE307 (y_extract rfl rfl) rfl rfl rfl ?_; intro a308 hE309; clear hE307
      refine q_step (v := .int .i64 ((F_DepthsOf ((F_s_DrawJoinFormulas code).2.1)).1)) hE309 (y_assign rfl) rfl rfl rfl ?_; intro a310 hE311; clear hE309
      refine q_step (v := .int .i64 ((F_DepthsOf ((F_s_DrawJoinFormulas code).2.1)).2.1)) hE311 (y_assign rfl) rfl rfl rfl ?_; intro a312 hE313; clear hE311
      refine q_step (v := .int .i64 ((F_DepthsOf ((F_s_DrawJoinFormulas code).2.1)).2.2)) hE313 (y_assign rfl) rfl rfl rfl ?_; intro a314 hE315; clear hE313
      refine c_nil ?_
      have hE316 := hE315.sub (L' := [(3, .int .i64 ((F_s_DrawJoinFormulas code).1)), (4, .slice b27 (((F_s_DrawJoinFormulas code).2.1).length / 2 : Nat) c28), (5, .slice b29 (((F_s_DrawJoinFormulas code).2.2).length / 2 : Nat) c30), (10, .slice b185 (((F_KindCounts ((F_s_DrawJoinFormulas code).2.1)).1).length) c186), (11, .int .i64 ((F_KindCounts ((F_s_DrawJoinFormulas code).2.1)).2)), (12, .slice b209 (((F_KindCounts ((F_s_DrawJoinFormulas code).2.2)).1).length) c210), (13, .int .i64 ((F_KindCounts ((F_s_DrawJoinFormulas code).2.2)).2)), (14, .slice b233 (((F_KindCounts ((F_JoinFormulas ((F_s_DrawJoinFormulas code).1) ((F_s_DrawJoinFormulas code).2.1) ((F_s_DrawJoinFormulas code).2.2)).1)).1).length) c234), (15, .int .i64 ((F_KindCounts ((F_JoinFormulas ((F_s_DrawJoinFormulas code).1) ((F_s_DrawJoinFormulas code).2.1) ((F_s_DrawJoinFormulas code).2.2)).1)).2)), (16, .int .i64 ((F_PartEnd ((F_JoinFormulas ((F_s_DrawJoinFormulas code).1) ((F_s_DrawJoinFormulas code).2.1) ((F_s_DrawJoinFormulas code).2.2)).1) 1).1)), (17, .int .i64 ((F_PartEnd ((F_JoinFormulas ((F_s_DrawJoinFormulas code).1) ((F_s_DrawJoinFormulas code).2.1) ((F_s_DrawJoinFormulas code).2.2)).1) 1).2)), (18, .int .i64 ((F_DepthsOf ((F_JoinFormulas ((F_s_DrawJoinFormulas code).1) ((F_s_DrawJoinFormulas code).2.1) ((F_s_DrawJoinFormulas code).2.2)).1)).1)), (19, .int .i64 ((F_DepthsOf ((F_JoinFormulas ((F_s_DrawJoinFormulas code).1) ((F_s_DrawJoinFormulas code).2.1) ((F_s_DrawJoinFormulas code).2.2)).1)).2.1)), (20, .int .i64 ((F_DepthsOf ((F_JoinFormulas ((F_s_DrawJoinFormulas code).1) ((F_s_DrawJoinFormulas code).2.1) ((F_s_DrawJoinFormulas code).2.2)).1)).2.2)), (21, .int .i64 ((F_DepthsOf ((F_s_DrawJoinFormulas code).2.1)).1)), (22, .int .i64 ((F_DepthsOf ((F_s_DrawJoinFormulas code).2.1)).2.1)), (23, .int .i64 ((F_DepthsOf ((F_s_DrawJoinFormulas code).2.1)).2.2))]) ⟨rfl, rfl, rfl, rfl, rfl, rfl, rfl, rfl, rfl, rfl, rfl, rfl, rfl, rfl, rfl, rfl, rfl, trivial⟩; clear hE315
      refine p_tn ?_
      refine c_seq ?_
      refine c_reg ?_
      refine q_step (v := .slice b29 (((F_s_DrawJoinFormulas code).2.2).length / 2 : Nat) c30) hE316 (y_move rfl) rfl rfl rfl ?_; intro a317 hE318; clear hE316
      refine l_step hE318 rfl (l_call (f := 65) (argv := [.slice b29 (((F_s_DrawJoinFormulas code).2.2).length / 2 : Nat) c30]) hE318 (fun _ => cf_DepthsOf _ _) rfl rfl (c_DepthsOf b29 (((F_s_DrawJoinFormulas code).2.2).length / 2 : Nat) c30 ((F_s_DrawJoinFormulas code).2.2) w296 (St.rdO (i := 6) hS299 rfl) (by omega)) ?_)
      rintro _ w320 ⟨rfl, he324⟩ a321 hE322; clear hE318
      have hf325 := DepthsOf_bd ((F_s_DrawJoinFormulas code).2.2) (by omega)
      have hS323 := St.go hS299 he324; clear hS299
      refine q_step (v := .tuple #[.int .i64 ((F_DepthsOf ((F_s_DrawJoinFormulas code).2.2)).1), .int .i64 ((F_DepthsOf ((F_s_DrawJoinFormulas code).2.2)).2.1), .int .i64 ((F_DepthsOf ((F_s_DrawJoinFormulas code).2.2)).2.2)]) hE322 (y_move rfl) rfl rfl rfl ?_; intro a326 hE327; clear hE322
      refine q_step (v := .int .i64 ((F_DepthsOf ((F_s_DrawJoinFormulas code).2.2)).1)) hE327 (y_extract rfl rfl) rfl rfl rfl ?_; intro a328 hE329; clear hE327
      refine q_step (v := .int .i64 ((F_DepthsOf ((F_s_DrawJoinFormulas code).2.2)).2.1)) hE329 (y_extract rfl rfl) rfl rfl rfl ?_; intro a330 hE331; clear hE329
      refine q_step (v := .int .i64 ((F_DepthsOf ((F_s_DrawJoinFormulas code).2.2)).2.2)) hE331 (y_extract rfl rfl) rfl rfl rfl ?_; intro a332 hE333; clear hE331
      refine q_step (v := .int .i64 ((F_DepthsOf ((F_s_DrawJoinFormulas code).2.2)).1)) hE333 (y_assign rfl) rfl rfl rfl ?_; intro a334 hE335; clear hE333
      refine q_step (v := .int .i64 ((F_DepthsOf ((F_s_DrawJoinFormulas code).2.2)).2.1)) hE335 (y_assign rfl) rfl rfl rfl ?_; intro a336 hE337; clear hE335
      refine q_step (v := .int .i64 ((F_DepthsOf ((F_s_DrawJoinFormulas code).2.2)).2.2)) hE337 (y_assign rfl) rfl rfl rfl ?_; intro a338 hE339; clear hE337
      refine c_nil ?_
      have hE340 := hE339.sub (L' := [(3, .int .i64 ((F_s_DrawJoinFormulas code).1)), (4, .slice b27 (((F_s_DrawJoinFormulas code).2.1).length / 2 : Nat) c28), (10, .slice b185 (((F_KindCounts ((F_s_DrawJoinFormulas code).2.1)).1).length) c186), (11, .int .i64 ((F_KindCounts ((F_s_DrawJoinFormulas code).2.1)).2)), (12, .slice b209 (((F_KindCounts ((F_s_DrawJoinFormulas code).2.2)).1).length) c210), (13, .int .i64 ((F_KindCounts ((F_s_DrawJoinFormulas code).2.2)).2)), (14, .slice b233 (((F_KindCounts ((F_JoinFormulas ((F_s_DrawJoinFormulas code).1) ((F_s_DrawJoinFormulas code).2.1) ((F_s_DrawJoinFormulas code).2.2)).1)).1).length) c234), (15, .int .i64 ((F_KindCounts ((F_JoinFormulas ((F_s_DrawJoinFormulas code).1) ((F_s_DrawJoinFormulas code).2.1) ((F_s_DrawJoinFormulas code).2.2)).1)).2)), (16, .int .i64 ((F_PartEnd ((F_JoinFormulas ((F_s_DrawJoinFormulas code).1) ((F_s_DrawJoinFormulas code).2.1) ((F_s_DrawJoinFormulas code).2.2)).1) 1).1)), (17, .int .i64 ((F_PartEnd ((F_JoinFormulas ((F_s_DrawJoinFormulas code).1) ((F_s_DrawJoinFormulas code).2.1) ((F_s_DrawJoinFormulas code).2.2)).1) 1).2)), (18, .int .i64 ((F_DepthsOf ((F_JoinFormulas ((F_s_DrawJoinFormulas code).1) ((F_s_DrawJoinFormulas code).2.1) ((F_s_DrawJoinFormulas code).2.2)).1)).1)), (19, .int .i64 ((F_DepthsOf ((F_JoinFormulas ((F_s_DrawJoinFormulas code).1) ((F_s_DrawJoinFormulas code).2.1) ((F_s_DrawJoinFormulas code).2.2)).1)).2.1)), (20, .int .i64 ((F_DepthsOf ((F_JoinFormulas ((F_s_DrawJoinFormulas code).1) ((F_s_DrawJoinFormulas code).2.1) ((F_s_DrawJoinFormulas code).2.2)).1)).2.2)), (21, .int .i64 ((F_DepthsOf ((F_s_DrawJoinFormulas code).2.1)).1)), (22, .int .i64 ((F_DepthsOf ((F_s_DrawJoinFormulas code).2.1)).2.1)), (23, .int .i64 ((F_DepthsOf ((F_s_DrawJoinFormulas code).2.1)).2.2)), (24, .int .i64 ((F_DepthsOf ((F_s_DrawJoinFormulas code).2.2)).1)), (25, .int .i64 ((F_DepthsOf ((F_s_DrawJoinFormulas code).2.2)).2.1)), (26, .int .i64 ((F_DepthsOf ((F_s_DrawJoinFormulas code).2.2)).2.2))]) ⟨rfl, rfl, rfl, rfl, rfl, rfl, rfl, rfl, rfl, rfl, rfl, rfl, rfl, rfl, rfl, rfl, rfl, rfl, rfl, trivial⟩; clear hE339
      refine p_tn ?_
      refine c_seq ?_
      refine c_seq ?_
      refine c_reg ?_
      refine q_step (v := .int .i64 ((F_KindCounts ((F_s_DrawJoinFormulas code).2.1)).2)) hE340 (y_move rfl) rfl rfl rfl ?_; intro a341 hE342; clear hE340
      refine q_step (v := .int .i64 ((F_KindCounts ((F_s_DrawJoinFormulas code).2.2)).2)) hE342 (y_move rfl) rfl rfl rfl ?_; intro a343 hE344; clear hE342
      refine q_step (v := .int .i64 (((F_KindCounts ((F_s_DrawJoinFormulas code).2.1)).2) + ((F_KindCounts ((F_s_DrawJoinFormulas code).2.2)).2))) hE344 (y_add rfl rfl ⟨(by omega), (by omega)⟩) rfl rfl rfl ?_; intro a345 hE346; clear hE344
      refine q_step (v := .int .i64 ((F_KindCounts ((F_JoinFormulas ((F_s_DrawJoinFormulas code).1) ((F_s_DrawJoinFormulas code).2.1) ((F_s_DrawJoinFormulas code).2.2)).1)).2)) hE346 (y_move rfl) rfl rfl rfl ?_; intro a347 hE348; clear hE346
      refine q_step (v := .int .i64 ((((F_KindCounts ((F_s_DrawJoinFormulas code).2.1)).2) + ((F_KindCounts ((F_s_DrawJoinFormulas code).2.2)).2)) + ((F_KindCounts ((F_JoinFormulas ((F_s_DrawJoinFormulas code).1) ((F_s_DrawJoinFormulas code).2.1) ((F_s_DrawJoinFormulas code).2.2)).1)).2))) hE348 (y_add rfl rfl ⟨(by omega), (by omega)⟩) rfl rfl rfl ?_; intro a349 hE350; clear hE348
      refine q_step (v := .int .i64 ((F_PartEnd ((F_JoinFormulas ((F_s_DrawJoinFormulas code).1) ((F_s_DrawJoinFormulas code).2.1) ((F_s_DrawJoinFormulas code).2.2)).1) 1).2)) hE350 (y_move rfl) rfl rfl rfl ?_; intro a351 hE352; clear hE350
      refine q_step (v := .int .i64 (((((F_KindCounts ((F_s_DrawJoinFormulas code).2.1)).2) + ((F_KindCounts ((F_s_DrawJoinFormulas code).2.2)).2)) + ((F_KindCounts ((F_JoinFormulas ((F_s_DrawJoinFormulas code).1) ((F_s_DrawJoinFormulas code).2.1) ((F_s_DrawJoinFormulas code).2.2)).1)).2)) + ((F_PartEnd ((F_JoinFormulas ((F_s_DrawJoinFormulas code).1) ((F_s_DrawJoinFormulas code).2.1) ((F_s_DrawJoinFormulas code).2.2)).1) 1).2))) hE352 (y_add rfl rfl ⟨(by omega), (by omega)⟩) rfl rfl rfl ?_; intro a353 hE354; clear hE352
      refine q_step (v := .int .i64 ((F_DepthsOf ((F_JoinFormulas ((F_s_DrawJoinFormulas code).1) ((F_s_DrawJoinFormulas code).2.1) ((F_s_DrawJoinFormulas code).2.2)).1)).2.2)) hE354 (y_move rfl) rfl rfl rfl ?_; intro a355 hE356; clear hE354
      refine q_step (v := .int .i64 ((((((F_KindCounts ((F_s_DrawJoinFormulas code).2.1)).2) + ((F_KindCounts ((F_s_DrawJoinFormulas code).2.2)).2)) + ((F_KindCounts ((F_JoinFormulas ((F_s_DrawJoinFormulas code).1) ((F_s_DrawJoinFormulas code).2.1) ((F_s_DrawJoinFormulas code).2.2)).1)).2)) + ((F_PartEnd ((F_JoinFormulas ((F_s_DrawJoinFormulas code).1) ((F_s_DrawJoinFormulas code).2.1) ((F_s_DrawJoinFormulas code).2.2)).1) 1).2)) + ((F_DepthsOf ((F_JoinFormulas ((F_s_DrawJoinFormulas code).1) ((F_s_DrawJoinFormulas code).2.1) ((F_s_DrawJoinFormulas code).2.2)).1)).2.2))) hE356 (y_add rfl rfl ⟨(by omega), (by omega)⟩) rfl rfl rfl ?_; intro a357 hE358; clear hE356
      refine q_step (v := .int .i64 ((F_DepthsOf ((F_s_DrawJoinFormulas code).2.1)).2.2)) hE358 (y_move rfl) rfl rfl rfl ?_; intro a359 hE360; clear hE358
      refine q_step (v := .int .i64 (((((((F_KindCounts ((F_s_DrawJoinFormulas code).2.1)).2) + ((F_KindCounts ((F_s_DrawJoinFormulas code).2.2)).2)) + ((F_KindCounts ((F_JoinFormulas ((F_s_DrawJoinFormulas code).1) ((F_s_DrawJoinFormulas code).2.1) ((F_s_DrawJoinFormulas code).2.2)).1)).2)) + ((F_PartEnd ((F_JoinFormulas ((F_s_DrawJoinFormulas code).1) ((F_s_DrawJoinFormulas code).2.1) ((F_s_DrawJoinFormulas code).2.2)).1) 1).2)) + ((F_DepthsOf ((F_JoinFormulas ((F_s_DrawJoinFormulas code).1) ((F_s_DrawJoinFormulas code).2.1) ((F_s_DrawJoinFormulas code).2.2)).1)).2.2)) + ((F_DepthsOf ((F_s_DrawJoinFormulas code).2.1)).2.2))) hE360 (y_add rfl rfl ⟨(by omega), (by omega)⟩) rfl rfl rfl ?_; intro a361 hE362; clear hE360
      refine q_step (v := .int .i64 ((F_DepthsOf ((F_s_DrawJoinFormulas code).2.2)).2.2)) hE362 (y_move rfl) rfl rfl rfl ?_; intro a363 hE364; clear hE362
      refine q_step (v := .int .i64 ((((((((F_KindCounts ((F_s_DrawJoinFormulas code).2.1)).2) + ((F_KindCounts ((F_s_DrawJoinFormulas code).2.2)).2)) + ((F_KindCounts ((F_JoinFormulas ((F_s_DrawJoinFormulas code).1) ((F_s_DrawJoinFormulas code).2.1) ((F_s_DrawJoinFormulas code).2.2)).1)).2)) + ((F_PartEnd ((F_JoinFormulas ((F_s_DrawJoinFormulas code).1) ((F_s_DrawJoinFormulas code).2.1) ((F_s_DrawJoinFormulas code).2.2)).1) 1).2)) + ((F_DepthsOf ((F_JoinFormulas ((F_s_DrawJoinFormulas code).1) ((F_s_DrawJoinFormulas code).2.1) ((F_s_DrawJoinFormulas code).2.2)).1)).2.2)) + ((F_DepthsOf ((F_s_DrawJoinFormulas code).2.1)).2.2)) + ((F_DepthsOf ((F_s_DrawJoinFormulas code).2.2)).2.2))) hE364 (y_add rfl rfl ⟨(by omega), (by omega)⟩) rfl rfl rfl ?_; intro a365 hE366; clear hE364
      refine q_step (v := .bool (!decide (((((((((F_KindCounts ((F_s_DrawJoinFormulas code).2.1)).2) + ((F_KindCounts ((F_s_DrawJoinFormulas code).2.2)).2)) + ((F_KindCounts ((F_JoinFormulas ((F_s_DrawJoinFormulas code).1) ((F_s_DrawJoinFormulas code).2.1) ((F_s_DrawJoinFormulas code).2.2)).1)).2)) + ((F_PartEnd ((F_JoinFormulas ((F_s_DrawJoinFormulas code).1) ((F_s_DrawJoinFormulas code).2.1) ((F_s_DrawJoinFormulas code).2.2)).1) 1).2)) + ((F_DepthsOf ((F_JoinFormulas ((F_s_DrawJoinFormulas code).1) ((F_s_DrawJoinFormulas code).2.1) ((F_s_DrawJoinFormulas code).2.2)).1)).2.2)) + ((F_DepthsOf ((F_s_DrawJoinFormulas code).2.1)).2.2)) + ((F_DepthsOf ((F_s_DrawJoinFormulas code).2.2)).2.2)) = 0))) hE366 (y_neq rfl rfl) rfl rfl rfl ?_; intro a367 hE368; clear hE366
      refine q_step (v := .bool (!decide (((((((((F_KindCounts ((F_s_DrawJoinFormulas code).2.1)).2) + ((F_KindCounts ((F_s_DrawJoinFormulas code).2.2)).2)) + ((F_KindCounts ((F_JoinFormulas ((F_s_DrawJoinFormulas code).1) ((F_s_DrawJoinFormulas code).2.1) ((F_s_DrawJoinFormulas code).2.2)).1)).2)) + ((F_PartEnd ((F_JoinFormulas ((F_s_DrawJoinFormulas code).1) ((F_s_DrawJoinFormulas code).2.1) ((F_s_DrawJoinFormulas code).2.2)).1) 1).2)) + ((F_DepthsOf ((F_JoinFormulas ((F_s_DrawJoinFormulas code).1) ((F_s_DrawJoinFormulas code).2.1) ((F_s_DrawJoinFormulas code).2.2)).1)).2.2)) + ((F_DepthsOf ((F_s_DrawJoinFormulas code).2.1)).2.2)) + ((F_DepthsOf ((F_s_DrawJoinFormulas code).2.2)).2.2)) = 0))) hE368 (y_move rfl) rfl rfl rfl ?_; intro a369 hE370; clear hE368
      rcases Bool.eq_false_or_eq_true (!decide (((((((((F_KindCounts ((F_s_DrawJoinFormulas code).2.1)).2) + ((F_KindCounts ((F_s_DrawJoinFormulas code).2.2)).2)) + ((F_KindCounts ((F_JoinFormulas ((F_s_DrawJoinFormulas code).1) ((F_s_DrawJoinFormulas code).2.1) ((F_s_DrawJoinFormulas code).2.2)).1)).2)) + ((F_PartEnd ((F_JoinFormulas ((F_s_DrawJoinFormulas code).1) ((F_s_DrawJoinFormulas code).2.1) ((F_s_DrawJoinFormulas code).2.2)).1) 1).2)) + ((F_DepthsOf ((F_JoinFormulas ((F_s_DrawJoinFormulas code).1) ((F_s_DrawJoinFormulas code).2.1) ((F_s_DrawJoinFormulas code).2.2)).1)).2.2)) + ((F_DepthsOf ((F_s_DrawJoinFormulas code).2.1)).2.2)) + ((F_DepthsOf ((F_s_DrawJoinFormulas code).2.2)).2.2)) = 0)) with hb371 | hb371
      ·
       have hE372 := hE370; (try rw [hb371] at hE372); clear hE370
       have ht373 := bn_t hb371
       have hp374 := of_decide_eq_false ht373
       refine q_skip hE372 rfl rfl rfl ?_; intro a375 hE376; clear hE372
       refine q_skip hE376 rfl rfl rfl ?_; intro a377 hE378; clear hE376
       refine q_skip hE378 rfl rfl rfl ?_; intro a379 hE380; clear hE378
       refine q_step (v := .bool true) hE380 (y_pick (b := true) rfl rfl) rfl rfl rfl ?_; intro a381 hE382; clear hE380
       refine q_step (v := .bool true) hE382 (y_move rfl) rfl rfl rfl ?_; intro a383 hE384; clear hE382
       refine q_skip hE384 rfl rfl rfl ?_; intro a385 hE386; clear hE384
       refine q_skip hE386 rfl rfl rfl ?_; intro a387 hE388; clear hE386
       refine q_skip hE388 rfl rfl rfl ?_; intro a389 hE390; clear hE388
       refine q_step (v := .bool true) hE390 (y_pick (b := true) rfl rfl) rfl rfl rfl ?_; intro a391 hE392; clear hE390
       refine q_step (v := .bool true) hE392 (y_move rfl) rfl rfl rfl ?_; intro a393 hE394; clear hE392
       refine q_skip hE394 rfl rfl rfl ?_; intro a395 hE396; clear hE394
       refine q_skip hE396 rfl rfl rfl ?_; intro a397 hE398; clear hE396
       refine q_skip hE398 rfl rfl rfl ?_; intro a399 hE400; clear hE398
       refine q_step (v := .bool true) hE400 (y_pick (b := true) rfl rfl) rfl rfl rfl ?_; intro a401 hE402; clear hE400
       refine q_step (v := .bool true) hE402 (y_move rfl) rfl rfl rfl ?_; intro a403 hE404; clear hE402
       refine q_skip hE404 rfl rfl rfl ?_; intro a405 hE406; clear hE404
       refine q_skip hE406 rfl rfl rfl ?_; intro a407 hE408; clear hE406
       refine q_skip hE408 rfl rfl rfl ?_; intro a409 hE410; clear hE408
       refine q_skip hE410 rfl rfl rfl ?_; intro a411 hE412; clear hE410
       refine q_skip hE412 rfl rfl rfl ?_; intro a413 hE414; clear hE412
       refine q_step (v := .bool true) hE414 (y_pick (b := true) rfl rfl) rfl rfl rfl ?_; intro a415 hE416; clear hE414
       refine q_step (v := .bool true) hE416 (y_move rfl) rfl rfl rfl ?_; intro a417 hE418; clear hE416
       refine q_skip hE418 rfl rfl rfl ?_; intro a419 hE420; clear hE418
       refine q_skip hE420 rfl rfl rfl ?_; intro a421 hE422; clear hE420
       refine q_skip hE422 rfl rfl rfl ?_; intro a423 hE424; clear hE422
       refine q_skip hE424 rfl rfl rfl ?_; intro a425 hE426; clear hE424
       refine q_skip hE426 rfl rfl rfl ?_; intro a427 hE428; clear hE426
       refine q_skip hE428 rfl rfl rfl ?_; intro a429 hE430; clear hE428
       refine q_step (v := .bool true) hE430 (y_pick (b := true) rfl rfl) rfl rfl rfl ?_; intro a431 hE432; clear hE430
       refine q_step (v := .bool true) hE432 (y_move rfl) rfl rfl rfl ?_; intro a433 hE434; clear hE432
       refine q_skip hE434 rfl rfl rfl ?_; intro a435 hE436; clear hE434
       refine q_skip hE436 rfl rfl rfl ?_; intro a437 hE438; clear hE436
       refine q_skip hE438 rfl rfl rfl ?_; intro a439 hE440; clear hE438
       refine q_skip hE440 rfl rfl rfl ?_; intro a441 hE442; clear hE440
       refine q_skip hE442 rfl rfl rfl ?_; intro a443 hE444; clear hE442
       refine q_step (v := .bool true) hE444 (y_pick (b := true) rfl rfl) rfl rfl rfl ?_; intro a445 hE446; clear hE444
       refine c_nil ?_
       have hE447 := hE446.sub (L' := [(3, .int .i64 ((F_s_DrawJoinFormulas code).1)), (10, .slice b185 (((F_KindCounts ((F_s_DrawJoinFormulas code).2.1)).1).length) c186), (12, .slice b209 (((F_KindCounts ((F_s_DrawJoinFormulas code).2.2)).1).length) c210), (14, .slice b233 (((F_KindCounts ((F_JoinFormulas ((F_s_DrawJoinFormulas code).1) ((F_s_DrawJoinFormulas code).2.1) ((F_s_DrawJoinFormulas code).2.2)).1)).1).length) c234), (153, .bool true)]) ⟨rfl, rfl, rfl, rfl, rfl, trivial⟩; clear hE446
       refine p_tn ?_
       refine c_true hE447 rfl ?_
       refine c_seq ?_
       refine c_reg ?_
       refine q_step (v := .bool false) hE447 (y_assign rfl) rfl rfl rfl ?_; intro a448 hE449; clear hE447
       refine c_nil ?_
       have hE450 := hE449.sub (L' := [(2, .bool false)]) ⟨rfl, trivial⟩; clear hE449
       refine p_tn ?_
       refine wp_ret ?_
       refine p_tr ?_
       have hF : F_l_FnBuilding code = false := by unfold F_l_FnBuilding; rw [hb371, ht161, ht148, hb112, ht13]; first | done | rfl
       refine c_ret1 hE450 rfl rfl ?_
       exact ⟨(by rw [hF]; first | done | (dsimp only; done) | rfl), hS323.ext⟩
      ·
       have hE451 := hE370; (try rw [hb371] at hE451); clear hE370
       have ht452 := bn_f hb371
       have hp453 := of_decide_eq_true ht452
       refine q_step (v := .slice b185 (((F_KindCounts ((F_s_DrawJoinFormulas code).2.1)).1).length) c186) hE451 (y_move rfl) rfl rfl rfl ?_; intro a454 hE455; clear hE451
       refine q_step (v := .int .i64 (((F_KindCounts ((F_s_DrawJoinFormulas code).2.1)).1).length : Int)) hE455 (y_len (e := 2) (by kernel_rfl) rfl) rfl rfl rfl ?_; intro a456 hE457; clear hE455
       refine q_step (v := .bool (!decide ((((F_KindCounts ((F_s_DrawJoinFormulas code).2.1)).1).length : Int) = 7))) hE457 (y_neq rfl rfl) rfl rfl rfl ?_; intro a458 hE459; clear hE457
       refine q_step (v := .bool (!decide ((((F_KindCounts ((F_s_DrawJoinFormulas code).2.1)).1).length : Int) = 7))) hE459 (y_pick (b := false) rfl rfl) rfl rfl rfl ?_; intro a460 hE461; clear hE459
       refine q_step (v := .bool (!decide ((((F_KindCounts ((F_s_DrawJoinFormulas code).2.1)).1).length : Int) = 7))) hE461 (y_move rfl) rfl rfl rfl ?_; intro a462 hE463; clear hE461
       rcases Bool.eq_false_or_eq_true (!decide ((((F_KindCounts ((F_s_DrawJoinFormulas code).2.1)).1).length : Int) = 7)) with hb464 | hb464
       ·
        have hE465 := hE463; (try rw [hb464] at hE465); clear hE463
        have ht466 := bn_t hb464
        have hp467 := of_decide_eq_false ht466
        refine q_skip hE465 rfl rfl rfl ?_; intro a468 hE469; clear hE465
        refine q_skip hE469 rfl rfl rfl ?_; intro a470 hE471; clear hE469
        refine q_skip hE471 rfl rfl rfl ?_; intro a472 hE473; clear hE471
        refine q_step (v := .bool true) hE473 (y_pick (b := true) rfl rfl) rfl rfl rfl ?_; intro a474 hE475; clear hE473
        refine q_step (v := .bool true) hE475 (y_move rfl) rfl rfl rfl ?_; intro a476 hE477; clear hE475
        refine q_skip hE477 rfl rfl rfl ?_; intro a478 hE479; clear hE477
        refine q_skip hE479 rfl rfl rfl ?_; intro a480 hE481; clear hE479
        refine q_skip hE481 rfl rfl rfl ?_; intro a482 hE483; clear hE481
        refine q_step (v := .bool true) hE483 (y_pick (b := true) rfl rfl) rfl rfl rfl ?_; intro a484 hE485; clear hE483
        refine q_step (v := .bool true) hE485 (y_move rfl) rfl rfl rfl ?_; intro a486 hE487; clear hE485
        refine q_skip hE487 rfl rfl rfl ?_; intro a488 hE489; clear hE487
        refine q_skip hE489 rfl rfl rfl ?_; intro a490 hE491; clear hE489
        refine q_skip hE491 rfl rfl rfl ?_; intro a492 hE493; clear hE491
        refine q_skip hE493 rfl rfl rfl ?_; intro a494 hE495; clear hE493
        refine q_skip hE495 rfl rfl rfl ?_; intro a496 hE497; clear hE495
        refine q_step (v := .bool true) hE497 (y_pick (b := true) rfl rfl) rfl rfl rfl ?_; intro a498 hE499; clear hE497
        refine q_step (v := .bool true) hE499 (y_move rfl) rfl rfl rfl ?_; intro a500 hE501; clear hE499
        refine q_skip hE501 rfl rfl rfl ?_; intro a502 hE503; clear hE501
        refine q_skip hE503 rfl rfl rfl ?_; intro a504 hE505; clear hE503
        refine q_skip hE505 rfl rfl rfl ?_; intro a506 hE507; clear hE505
        refine q_skip hE507 rfl rfl rfl ?_; intro a508 hE509; clear hE507
        refine q_skip hE509 rfl rfl rfl ?_; intro a510 hE511; clear hE509
        refine q_skip hE511 rfl rfl rfl ?_; intro a512 hE513; clear hE511
        refine q_step (v := .bool true) hE513 (y_pick (b := true) rfl rfl) rfl rfl rfl ?_; intro a514 hE515; clear hE513
        refine q_step (v := .bool true) hE515 (y_move rfl) rfl rfl rfl ?_; intro a516 hE517; clear hE515
        refine q_skip hE517 rfl rfl rfl ?_; intro a518 hE519; clear hE517
        refine q_skip hE519 rfl rfl rfl ?_; intro a520 hE521; clear hE519
        refine q_skip hE521 rfl rfl rfl ?_; intro a522 hE523; clear hE521
        refine q_skip hE523 rfl rfl rfl ?_; intro a524 hE525; clear hE523
        refine q_skip hE525 rfl rfl rfl ?_; intro a526 hE527; clear hE525
        refine q_step (v := .bool true) hE527 (y_pick (b := true) rfl rfl) rfl rfl rfl ?_; intro a528 hE529; clear hE527
        refine c_nil ?_
        have hE530 := hE529.sub (L' := [(3, .int .i64 ((F_s_DrawJoinFormulas code).1)), (10, .slice b185 (((F_KindCounts ((F_s_DrawJoinFormulas code).2.1)).1).length) c186), (12, .slice b209 (((F_KindCounts ((F_s_DrawJoinFormulas code).2.2)).1).length) c210), (14, .slice b233 (((F_KindCounts ((F_JoinFormulas ((F_s_DrawJoinFormulas code).1) ((F_s_DrawJoinFormulas code).2.1) ((F_s_DrawJoinFormulas code).2.2)).1)).1).length) c234), (153, .bool true)]) ⟨rfl, rfl, rfl, rfl, rfl, trivial⟩; clear hE529
        refine p_tn ?_
        refine c_true hE530 rfl ?_
        refine c_seq ?_
        refine c_reg ?_
        refine q_step (v := .bool false) hE530 (y_assign rfl) rfl rfl rfl ?_; intro a531 hE532; clear hE530
        refine c_nil ?_
        have hE533 := hE532.sub (L' := [(2, .bool false)]) ⟨rfl, trivial⟩; clear hE532
        refine p_tn ?_
        refine wp_ret ?_
        refine p_tr ?_
        have hF : F_l_FnBuilding code = false := by unfold F_l_FnBuilding; rw [hb464, hb371, ht161, ht148, hb112, ht13]; first | done | rfl
        refine c_ret1 hE533 rfl rfl ?_
        exact ⟨(by rw [hF]; first | done | (dsimp only; done) | rfl), hS323.ext⟩
       ·
        have hE534 := hE463; (try rw [hb464] at hE534); clear hE463
        have ht535 := bn_f hb464
        have hp536 := of_decide_eq_true ht535
        refine q_step (v := .slice b209 (((F_KindCounts ((F_s_DrawJoinFormulas code).2.2)).1).length) c210) hE534 (y_move rfl) rfl rfl rfl ?_; intro a537 hE538; clear hE534
        refine q_step (v := .int .i64 (((F_KindCounts ((F_s_DrawJoinFormulas code).2.2)).1).length : Int)) hE538 (y_len (e := 2) (by kernel_rfl) rfl) rfl rfl rfl ?_; intro a539 hE540; clear hE538
        refine q_step (v := .bool (!decide ((((F_KindCounts ((F_s_DrawJoinFormulas code).2.2)).1).length : Int) = 7))) hE540 (y_neq rfl rfl) rfl rfl rfl ?_; intro a541 hE542; clear hE540
        refine q_step (v := .bool (!decide ((((F_KindCounts ((F_s_DrawJoinFormulas code).2.2)).1).length : Int) = 7))) hE542 (y_pick (b := false) rfl rfl) rfl rfl rfl ?_; intro a543 hE544; clear hE542
        refine q_step (v := .bool (!decide ((((F_KindCounts ((F_s_DrawJoinFormulas code).2.2)).1).length : Int) = 7))) hE544 (y_move rfl) rfl rfl rfl ?_; intro a545 hE546; clear hE544
        rcases Bool.eq_false_or_eq_true (!decide ((((F_KindCounts ((F_s_DrawJoinFormulas code).2.2)).1).length : Int) = 7)) with hb547 | hb547
        ·
         have hE548 := hE546; (try rw [hb547] at hE548); clear hE546
         have ht549 := bn_t hb547
         have hp550 := of_decide_eq_false ht549
         refine q_skip hE548 rfl rfl rfl ?_; intro a551 hE552; clear hE548
         refine q_skip hE552 rfl rfl rfl ?_; intro a553 hE554; clear hE552
         refine q_skip hE554 rfl rfl rfl ?_; intro a555 hE556; clear hE554
         refine q_step (v := .bool true) hE556 (y_pick (b := true) rfl rfl) rfl rfl rfl ?_; intro a557 hE558; clear hE556
         refine q_step (v := .bool true) hE558 (y_move rfl) rfl rfl rfl ?_; intro a559 hE560; clear hE558
         refine q_skip hE560 rfl rfl rfl ?_; intro a561 hE562; clear hE560
         refine q_skip hE562 rfl rfl rfl ?_; intro a563 hE564; clear hE562
         refine q_skip hE564 rfl rfl rfl ?_; intro a565 hE566; clear hE564
         refine q_skip hE566 rfl rfl rfl ?_; intro a567 hE568; clear hE566
         refine q_skip hE568 rfl rfl rfl ?_; intro a569 hE570; clear hE568
         refine q_step (v := .bool true) hE570 (y_pick (b := true) rfl rfl) rfl rfl rfl ?_; intro a571 hE572; clear hE570
         refine q_step (v := .bool true) hE572 (y_move rfl) rfl rfl rfl ?_; intro a573 hE574; clear hE572
         refine q_skip hE574 rfl rfl rfl ?_; intro a575 hE576; clear hE574
         refine q_skip hE576 rfl rfl rfl ?_; intro a577 hE578; clear hE576
         refine q_skip hE578 rfl rfl rfl ?_; intro a579 hE580; clear hE578
         refine q_skip hE580 rfl rfl rfl ?_; intro a581 hE582; clear hE580
         refine q_skip hE582 rfl rfl rfl ?_; intro a583 hE584; clear hE582
         refine q_skip hE584 rfl rfl rfl ?_; intro a585 hE586; clear hE584
         refine q_step (v := .bool true) hE586 (y_pick (b := true) rfl rfl) rfl rfl rfl ?_; intro a587 hE588; clear hE586
         refine q_step (v := .bool true) hE588 (y_move rfl) rfl rfl rfl ?_; intro a589 hE590; clear hE588
         refine q_skip hE590 rfl rfl rfl ?_; intro a591 hE592; clear hE590
         refine q_skip hE592 rfl rfl rfl ?_; intro a593 hE594; clear hE592
         refine q_skip hE594 rfl rfl rfl ?_; intro a595 hE596; clear hE594
         refine q_skip hE596 rfl rfl rfl ?_; intro a597 hE598; clear hE596
         refine q_skip hE598 rfl rfl rfl ?_; intro a599 hE600; clear hE598
         refine q_step (v := .bool true) hE600 (y_pick (b := true) rfl rfl) rfl rfl rfl ?_; intro a601 hE602; clear hE600
         refine c_nil ?_
         have hE603 := hE602.sub (L' := [(3, .int .i64 ((F_s_DrawJoinFormulas code).1)), (10, .slice b185 (((F_KindCounts ((F_s_DrawJoinFormulas code).2.1)).1).length) c186), (12, .slice b209 (((F_KindCounts ((F_s_DrawJoinFormulas code).2.2)).1).length) c210), (14, .slice b233 (((F_KindCounts ((F_JoinFormulas ((F_s_DrawJoinFormulas code).1) ((F_s_DrawJoinFormulas code).2.1) ((F_s_DrawJoinFormulas code).2.2)).1)).1).length) c234), (153, .bool true)]) ⟨rfl, rfl, rfl, rfl, rfl, trivial⟩; clear hE602
         refine p_tn ?_
         refine c_true hE603 rfl ?_
         refine c_seq ?_
         refine c_reg ?_
         refine q_step (v := .bool false) hE603 (y_assign rfl) rfl rfl rfl ?_; intro a604 hE605; clear hE603
         refine c_nil ?_
         have hE606 := hE605.sub (L' := [(2, .bool false)]) ⟨rfl, trivial⟩; clear hE605
         refine p_tn ?_
         refine wp_ret ?_
         refine p_tr ?_
         have hF : F_l_FnBuilding code = false := by unfold F_l_FnBuilding; rw [hb547, hb464, hb371, ht161, ht148, hb112, ht13]; first | done | rfl
         refine c_ret1 hE606 rfl rfl ?_
         exact ⟨(by rw [hF]; first | done | (dsimp only; done) | rfl), hS323.ext⟩
        ·
         have hE607 := hE546; (try rw [hb547] at hE607); clear hE546
         have ht608 := bn_f hb547
         have hp609 := of_decide_eq_true ht608
         refine q_step (v := .slice b233 (((F_KindCounts ((F_JoinFormulas ((F_s_DrawJoinFormulas code).1) ((F_s_DrawJoinFormulas code).2.1) ((F_s_DrawJoinFormulas code).2.2)).1)).1).length) c234) hE607 (y_move rfl) rfl rfl rfl ?_; intro a610 hE611; clear hE607
         refine q_step (v := .int .i64 (((F_KindCounts ((F_JoinFormulas ((F_s_DrawJoinFormulas code).1) ((F_s_DrawJoinFormulas code).2.1) ((F_s_DrawJoinFormulas code).2.2)).1)).1).length : Int)) hE611 (y_len (e := 2) (by kernel_rfl) rfl) rfl rfl rfl ?_; intro a612 hE613; clear hE611
         refine q_step (v := .bool (!decide ((((F_KindCounts ((F_JoinFormulas ((F_s_DrawJoinFormulas code).1) ((F_s_DrawJoinFormulas code).2.1) ((F_s_DrawJoinFormulas code).2.2)).1)).1).length : Int) = 7))) hE613 (y_neq rfl rfl) rfl rfl rfl ?_; intro a614 hE615; clear hE613
         refine q_step (v := .bool (!decide ((((F_KindCounts ((F_JoinFormulas ((F_s_DrawJoinFormulas code).1) ((F_s_DrawJoinFormulas code).2.1) ((F_s_DrawJoinFormulas code).2.2)).1)).1).length : Int) = 7))) hE615 (y_pick (b := false) rfl rfl) rfl rfl rfl ?_; intro a616 hE617; clear hE615
         refine q_step (v := .bool (!decide ((((F_KindCounts ((F_JoinFormulas ((F_s_DrawJoinFormulas code).1) ((F_s_DrawJoinFormulas code).2.1) ((F_s_DrawJoinFormulas code).2.2)).1)).1).length : Int) = 7))) hE617 (y_move rfl) rfl rfl rfl ?_; intro a618 hE619; clear hE617
         rcases Bool.eq_false_or_eq_true (!decide ((((F_KindCounts ((F_JoinFormulas ((F_s_DrawJoinFormulas code).1) ((F_s_DrawJoinFormulas code).2.1) ((F_s_DrawJoinFormulas code).2.2)).1)).1).length : Int) = 7)) with hb620 | hb620
         ·
          have hE621 := hE619; (try rw [hb620] at hE621); clear hE619
          have ht622 := bn_t hb620
          have hp623 := of_decide_eq_false ht622
          refine q_skip hE621 rfl rfl rfl ?_; intro a624 hE625; clear hE621
          refine q_skip hE625 rfl rfl rfl ?_; intro a626 hE627; clear hE625
          refine q_skip hE627 rfl rfl rfl ?_; intro a628 hE629; clear hE627
          refine q_skip hE629 rfl rfl rfl ?_; intro a630 hE631; clear hE629
          refine q_skip hE631 rfl rfl rfl ?_; intro a632 hE633; clear hE631
          refine q_step (v := .bool true) hE633 (y_pick (b := true) rfl rfl) rfl rfl rfl ?_; intro a634 hE635; clear hE633
          refine q_step (v := .bool true) hE635 (y_move rfl) rfl rfl rfl ?_; intro a636 hE637; clear hE635
          refine q_skip hE637 rfl rfl rfl ?_; intro a638 hE639; clear hE637
          refine q_skip hE639 rfl rfl rfl ?_; intro a640 hE641; clear hE639
          refine q_skip hE641 rfl rfl rfl ?_; intro a642 hE643; clear hE641
          refine q_skip hE643 rfl rfl rfl ?_; intro a644 hE645; clear hE643
          refine q_skip hE645 rfl rfl rfl ?_; intro a646 hE647; clear hE645
          refine q_skip hE647 rfl rfl rfl ?_; intro a648 hE649; clear hE647
          refine q_step (v := .bool true) hE649 (y_pick (b := true) rfl rfl) rfl rfl rfl ?_; intro a650 hE651; clear hE649
          refine q_step (v := .bool true) hE651 (y_move rfl) rfl rfl rfl ?_; intro a652 hE653; clear hE651
          refine q_skip hE653 rfl rfl rfl ?_; intro a654 hE655; clear hE653
          refine q_skip hE655 rfl rfl rfl ?_; intro a656 hE657; clear hE655
          refine q_skip hE657 rfl rfl rfl ?_; intro a658 hE659; clear hE657
          refine q_skip hE659 rfl rfl rfl ?_; intro a660 hE661; clear hE659
          refine q_skip hE661 rfl rfl rfl ?_; intro a662 hE663; clear hE661
          refine q_step (v := .bool true) hE663 (y_pick (b := true) rfl rfl) rfl rfl rfl ?_; intro a664 hE665; clear hE663
          refine c_nil ?_
          have hE666 := hE665.sub (L' := [(3, .int .i64 ((F_s_DrawJoinFormulas code).1)), (10, .slice b185 (((F_KindCounts ((F_s_DrawJoinFormulas code).2.1)).1).length) c186), (12, .slice b209 (((F_KindCounts ((F_s_DrawJoinFormulas code).2.2)).1).length) c210), (14, .slice b233 (((F_KindCounts ((F_JoinFormulas ((F_s_DrawJoinFormulas code).1) ((F_s_DrawJoinFormulas code).2.1) ((F_s_DrawJoinFormulas code).2.2)).1)).1).length) c234), (153, .bool true)]) ⟨rfl, rfl, rfl, rfl, rfl, trivial⟩; clear hE665
          refine p_tn ?_
          refine c_true hE666 rfl ?_
          refine c_seq ?_
          refine c_reg ?_
          refine q_step (v := .bool false) hE666 (y_assign rfl) rfl rfl rfl ?_; intro a667 hE668; clear hE666
          refine c_nil ?_
          have hE669 := hE668.sub (L' := [(2, .bool false)]) ⟨rfl, trivial⟩; clear hE668
          refine p_tn ?_
          refine wp_ret ?_
          refine p_tr ?_
          have hF : F_l_FnBuilding code = false := by unfold F_l_FnBuilding; rw [hb620, hb547, hb464, hb371, ht161, ht148, hb112, ht13]; first | done | rfl
          refine c_ret1 hE669 rfl rfl ?_
          exact ⟨(by rw [hF]; first | done | (dsimp only; done) | rfl), hS323.ext⟩
         ·
          have hE670 := hE619; (try rw [hb620] at hE670); clear hE619
          have ht671 := bn_f hb620
          have hp672 := of_decide_eq_true ht671
          refine q_step (v := .int .i64 ((F_PartEnd ((F_JoinFormulas ((F_s_DrawJoinFormulas code).1) ((F_s_DrawJoinFormulas code).2.1) ((F_s_DrawJoinFormulas code).2.2)).1) 1).1)) hE670 (y_move rfl) rfl rfl rfl ?_; intro a673 hE674; clear hE670
          refine q_step (v := .slice b27 (((F_s_DrawJoinFormulas code).2.1).length / 2 : Nat) c28) hE674 (y_move rfl) rfl rfl rfl ?_; intro a675 hE676; clear hE674
          refine q_step (v := .int .i64 ((((F_s_DrawJoinFormulas code).2.1).length / 2 : Nat) : Int)) hE676 (y_len (e := 94) (by kernel_rfl) rfl) rfl rfl rfl ?_; intro a677 hE678; clear hE676
          refine q_step (v := .int .i64 (((((F_s_DrawJoinFormulas code).2.1).length / 2 : Nat) : Int) + 1)) hE678 (y_add rfl rfl ⟨(by omega), (by omega)⟩) rfl rfl rfl ?_; intro a679 hE680; clear hE678
          refine q_step (v := .bool (!decide (((F_PartEnd ((F_JoinFormulas ((F_s_DrawJoinFormulas code).1) ((F_s_DrawJoinFormulas code).2.1) ((F_s_DrawJoinFormulas code).2.2)).1) 1).1) = (((((F_s_DrawJoinFormulas code).2.1).length / 2 : Nat) : Int) + 1)))) hE680 (y_neq rfl rfl) rfl rfl rfl ?_; intro a681 hE682; clear hE680
          refine q_step (v := .bool (!decide (((F_PartEnd ((F_JoinFormulas ((F_s_DrawJoinFormulas code).1) ((F_s_DrawJoinFormulas code).2.1) ((F_s_DrawJoinFormulas code).2.2)).1) 1).1) = (((((F_s_DrawJoinFormulas code).2.1).length / 2 : Nat) : Int) + 1)))) hE682 (y_pick (b := false) rfl rfl) rfl rfl rfl ?_; intro a683 hE684; clear hE682
          refine q_step (v := .bool (!decide (((F_PartEnd ((F_JoinFormulas ((F_s_DrawJoinFormulas code).1) ((F_s_DrawJoinFormulas code).2.1) ((F_s_DrawJoinFormulas code).2.2)).1) 1).1) = (((((F_s_DrawJoinFormulas code).2.1).length / 2 : Nat) : Int) + 1)))) hE684 (y_move rfl) rfl rfl rfl ?_; intro a685 hE686; clear hE684
          rcases Bool.eq_false_or_eq_true (!decide (((F_PartEnd ((F_JoinFormulas ((F_s_DrawJoinFormulas code).1) ((F_s_DrawJoinFormulas code).2.1) ((F_s_DrawJoinFormulas code).2.2)).1) 1).1) = (((((F_s_DrawJoinFormulas code).2.1).length / 2 : Nat) : Int) + 1))) with hb687 | hb687
          ·
           have hE688 := hE686; (try rw [hb687] at hE688); clear hE686
           have ht689 := bn_t hb687
           have hp690 := of_decide_eq_false ht689
           refine q_skip hE688 rfl rfl rfl ?_; intro a691 hE692; clear hE688
           refine q_skip hE692 rfl rfl rfl ?_; intro a693 hE694; clear hE692
           refine q_skip hE694 rfl rfl rfl ?_; intro a695 hE696; clear hE694
           refine q_skip hE696 rfl rfl rfl ?_; intro a697 hE698; clear hE696
           refine q_skip hE698 rfl rfl rfl ?_; intro a699 hE700; clear hE698
           refine q_skip hE700 rfl rfl rfl ?_; intro a701 hE702; clear hE700
           refine q_step (v := .bool true) hE702 (y_pick (b := true) rfl rfl) rfl rfl rfl ?_; intro a703 hE704; clear hE702
           refine q_step (v := .bool true) hE704 (y_move rfl) rfl rfl rfl ?_; intro a705 hE706; clear hE704
           refine q_skip hE706 rfl rfl rfl ?_; intro a707 hE708; clear hE706
           refine q_skip hE708 rfl rfl rfl ?_; intro a709 hE710; clear hE708
           refine q_skip hE710 rfl rfl rfl ?_; intro a711 hE712; clear hE710
           refine q_skip hE712 rfl rfl rfl ?_; intro a713 hE714; clear hE712
           refine q_skip hE714 rfl rfl rfl ?_; intro a715 hE716; clear hE714
           refine q_step (v := .bool true) hE716 (y_pick (b := true) rfl rfl) rfl rfl rfl ?_; intro a717 hE718; clear hE716
           refine c_nil ?_
           have hE719 := hE718.sub (L' := [(3, .int .i64 ((F_s_DrawJoinFormulas code).1)), (10, .slice b185 (((F_KindCounts ((F_s_DrawJoinFormulas code).2.1)).1).length) c186), (12, .slice b209 (((F_KindCounts ((F_s_DrawJoinFormulas code).2.2)).1).length) c210), (14, .slice b233 (((F_KindCounts ((F_JoinFormulas ((F_s_DrawJoinFormulas code).1) ((F_s_DrawJoinFormulas code).2.1) ((F_s_DrawJoinFormulas code).2.2)).1)).1).length) c234), (153, .bool true)]) ⟨rfl, rfl, rfl, rfl, rfl, trivial⟩; clear hE718
           refine p_tn ?_
           refine c_true hE719 rfl ?_
           refine c_seq ?_
           refine c_reg ?_
           refine q_step (v := .bool false) hE719 (y_assign rfl) rfl rfl rfl ?_; intro a720 hE721; clear hE719
           refine c_nil ?_
           have hE722 := hE721.sub (L' := [(2, .bool false)]) ⟨rfl, trivial⟩; clear hE721
           refine p_tn ?_
           refine wp_ret ?_
           refine p_tr ?_
           have hF : F_l_FnBuilding code = false := by unfold F_l_FnBuilding; rw [hb687, hb620, hb547, hb464, hb371, ht161, ht148, hb112, ht13]; first | done | rfl
           refine c_ret1 hE722 rfl rfl ?_
           exact ⟨(by rw [hF]; first | done | (dsimp only; done) | rfl), hS323.ext⟩
          ·
           have hE723 := hE686; (try rw [hb687] at hE723); clear hE686
           have ht724 := bn_f hb687
           have hp725 := of_decide_eq_true ht724
           refine q_step (v := .int .i64 ((F_DepthsOf ((F_JoinFormulas ((F_s_DrawJoinFormulas code).1) ((F_s_DrawJoinFormulas code).2.1) ((F_s_DrawJoinFormulas code).2.2)).1)).1)) hE723 (y_move rfl) rfl rfl rfl ?_; intro a726 hE727; clear hE723
           refine q_step (v := .int .i64 ((F_DepthsOf ((F_s_DrawJoinFormulas code).2.1)).1)) hE727 (y_move rfl) rfl rfl rfl ?_; intro a728 hE729; clear hE727
           refine q_step (v := .int .i64 ((F_DepthsOf ((F_s_DrawJoinFormulas code).2.2)).1)) hE729 (y_move rfl) rfl rfl rfl ?_; intro a730 hE731; clear hE729
           refine q_step (v := .int .i64 (max ((F_DepthsOf ((F_s_DrawJoinFormulas code).2.1)).1) ((F_DepthsOf ((F_s_DrawJoinFormulas code).2.2)).1))) hE731 (y_max rfl rfl) rfl rfl rfl ?_; intro a732 hE733; clear hE731
           refine q_step (v := .int .i64 ((max ((F_DepthsOf ((F_s_DrawJoinFormulas code).2.1)).1) ((F_DepthsOf ((F_s_DrawJoinFormulas code).2.2)).1)) + 1)) hE733 (y_add rfl rfl ⟨(by omega), (by omega)⟩) rfl rfl rfl ?_; intro a734 hE735; clear hE733
           refine q_step (v := .bool (!decide (((F_DepthsOf ((F_JoinFormulas ((F_s_DrawJoinFormulas code).1) ((F_s_DrawJoinFormulas code).2.1) ((F_s_DrawJoinFormulas code).2.2)).1)).1) = ((max ((F_DepthsOf ((F_s_DrawJoinFormulas code).2.1)).1) ((F_DepthsOf ((F_s_DrawJoinFormulas code).2.2)).1)) + 1)))) hE735 (y_neq rfl rfl) rfl rfl rfl ?_; intro a736 hE737; clear hE735
           refine q_step (v := .bool (!decide (((F_DepthsOf ((F_JoinFormulas ((F_s_DrawJoinFormulas code).1) ((F_s_DrawJoinFormulas code).2.1) ((F_s_DrawJoinFormulas code).2.2)).1)).1) = ((max ((F_DepthsOf ((F_s_DrawJoinFormulas code).2.1)).1) ((F_DepthsOf ((F_s_DrawJoinFormulas code).2.2)).1)) + 1)))) hE737 (y_pick (b := false) rfl rfl) rfl rfl rfl ?_; intro a738 hE739; clear hE737
           refine q_step (v := .bool (!decide (((F_DepthsOf ((F_JoinFormulas ((F_s_DrawJoinFormulas code).1) ((F_s_DrawJoinFormulas code).2.1) ((F_s_DrawJoinFormulas code).2.2)).1)).1) = ((max ((F_DepthsOf ((F_s_DrawJoinFormulas code).2.1)).1) ((F_DepthsOf ((F_s_DrawJoinFormulas code).2.2)).1)) + 1)))) hE739 (y_move rfl) rfl rfl rfl ?_; intro a740 hE741; clear hE739
           rcases Bool.eq_false_or_eq_true (!decide (((F_DepthsOf ((F_JoinFormulas ((F_s_DrawJoinFormulas code).1) ((F_s_DrawJoinFormulas code).2.1) ((F_s_DrawJoinFormulas code).2.2)).1)).1) = ((max ((F_DepthsOf ((F_s_DrawJoinFormulas code).2.1)).1) ((F_DepthsOf ((F_s_DrawJoinFormulas code).2.2)).1)) + 1))) with hb742 | hb742
           ·
            have hE743 := hE741; (try rw [hb742] at hE743); clear hE741
            have ht744 := bn_t hb742
            have hp745 := of_decide_eq_false ht744
            refine q_skip hE743 rfl rfl rfl ?_; intro a746 hE747; clear hE743
            refine q_skip hE747 rfl rfl rfl ?_; intro a748 hE749; clear hE747
            refine q_skip hE749 rfl rfl rfl ?_; intro a750 hE751; clear hE749
            refine q_skip hE751 rfl rfl rfl ?_; intro a752 hE753; clear hE751
            refine q_skip hE753 rfl rfl rfl ?_; intro a754 hE755; clear hE753
            refine q_step (v := .bool true) hE755 (y_pick (b := true) rfl rfl) rfl rfl rfl ?_; intro a756 hE757; clear hE755
            refine c_nil ?_
            have hE758 := hE757.sub (L' := [(3, .int .i64 ((F_s_DrawJoinFormulas code).1)), (10, .slice b185 (((F_KindCounts ((F_s_DrawJoinFormulas code).2.1)).1).length) c186), (12, .slice b209 (((F_KindCounts ((F_s_DrawJoinFormulas code).2.2)).1).length) c210), (14, .slice b233 (((F_KindCounts ((F_JoinFormulas ((F_s_DrawJoinFormulas code).1) ((F_s_DrawJoinFormulas code).2.1) ((F_s_DrawJoinFormulas code).2.2)).1)).1).length) c234), (153, .bool true)]) ⟨rfl, rfl, rfl, rfl, rfl, trivial⟩; clear hE757
            refine p_tn ?_
            refine c_true hE758 rfl ?_
            refine c_seq ?_
            refine c_reg ?_
            refine q_step (v := .bool false) hE758 (y_assign rfl) rfl rfl rfl ?_; intro a759 hE760; clear hE758
            refine c_nil ?_
            have hE761 := hE760.sub (L' := [(2, .bool false)]) ⟨rfl, trivial⟩; clear hE760
            refine p_tn ?_
            refine wp_ret ?_
            refine p_tr ?_
            have hF : F_l_FnBuilding code = false := by unfold F_l_FnBuilding; rw [hb742, hb687, hb620, hb547, hb464, hb371, ht161, ht148, hb112, ht13]; first | done | rfl
            refine c_ret1 hE761 rfl rfl ?_
            exact ⟨(by rw [hF]; first | done | (dsimp only; done) | rfl), hS323.ext⟩
           ·
            have hE762 := hE741; (try rw [hb742] at hE762); clear hE741
            have ht763 := bn_f hb742
            have hp764 := of_decide_eq_true ht763
            refine q_step (v := .int .i64 ((F_DepthsOf ((F_JoinFormulas ((F_s_DrawJoinFormulas code).1) ((F_s_DrawJoinFormulas code).2.1) ((F_s_DrawJoinFormulas code).2.2)).1)).2.1)) hE762 (y_move rfl) rfl rfl rfl ?_; intro a765 hE766; clear hE762
            refine q_step (v := .int .i64 ((F_DepthsOf ((F_s_DrawJoinFormulas code).2.1)).2.1)) hE766 (y_move rfl) rfl rfl rfl ?_; intro a767 hE768; clear hE766
            refine q_step (v := .int .i64 ((F_DepthsOf ((F_s_DrawJoinFormulas code).2.2)).2.1)) hE768 (y_move rfl) rfl rfl rfl ?_; intro a769 hE770; clear hE768
            refine q_step (v := .int .i64 (max ((F_DepthsOf ((F_s_DrawJoinFormulas code).2.1)).2.1) ((F_DepthsOf ((F_s_DrawJoinFormulas code).2.2)).2.1))) hE770 (y_max rfl rfl) rfl rfl rfl ?_; intro a771 hE772; clear hE770
            refine q_step (v := .bool (!decide (((F_DepthsOf ((F_JoinFormulas ((F_s_DrawJoinFormulas code).1) ((F_s_DrawJoinFormulas code).2.1) ((F_s_DrawJoinFormulas code).2.2)).1)).2.1) = (max ((F_DepthsOf ((F_s_DrawJoinFormulas code).2.1)).2.1) ((F_DepthsOf ((F_s_DrawJoinFormulas code).2.2)).2.1))))) hE772 (y_neq rfl rfl) rfl rfl rfl ?_; intro a773 hE774; clear hE772
            refine q_step (v := .bool (!decide (((F_DepthsOf ((F_JoinFormulas ((F_s_DrawJoinFormulas code).1) ((F_s_DrawJoinFormulas code).2.1) ((F_s_DrawJoinFormulas code).2.2)).1)).2.1) = (max ((F_DepthsOf ((F_s_DrawJoinFormulas code).2.1)).2.1) ((F_DepthsOf ((F_s_DrawJoinFormulas code).2.2)).2.1))))) hE774 (y_pick (b := false) rfl rfl) rfl rfl rfl ?_; intro a775 hE776; clear hE774
            refine c_nil ?_
            have hE777 := hE776.sub (L' := [(3, .int .i64 ((F_s_DrawJoinFormulas code).1)), (10, .slice b185 (((F_KindCounts ((F_s_DrawJoinFormulas code).2.1)).1).length) c186), (12, .slice b209 (((F_KindCounts ((F_s_DrawJoinFormulas code).2.2)).1).length) c210), (14, .slice b233 (((F_KindCounts ((F_JoinFormulas ((F_s_DrawJoinFormulas code).1) ((F_s_DrawJoinFormulas code).2.1) ((F_s_DrawJoinFormulas code).2.2)).1)).1).length) c234), (153, .bool (!decide (((F_DepthsOf ((F_JoinFormulas ((F_s_DrawJoinFormulas code).1) ((F_s_DrawJoinFormulas code).2.1) ((F_s_DrawJoinFormulas code).2.2)).1)).2.1) = (max ((F_DepthsOf ((F_s_DrawJoinFormulas code).2.1)).2.1) ((F_DepthsOf ((F_s_DrawJoinFormulas code).2.2)).2.1)))))]) ⟨rfl, rfl, rfl, rfl, rfl, trivial⟩; clear hE776
            refine p_tn ?_
            refine c_cond hE777 rfl (fun ht778 => ?_) (fun ht778 => ?_)
            ·
             have ht779 := bn_t ht778
             have hp780 := of_decide_eq_false ht779
             have hE781 := hE777; rw [ht778] at hE781; clear hE777
             refine c_seq ?_
             refine c_reg ?_
             refine q_step (v := .bool false) hE781 (y_assign rfl) rfl rfl rfl ?_; intro a782 hE783; clear hE781
             refine c_nil ?_
             have hE784 := hE783.sub (L' := [(2, .bool false)]) ⟨rfl, trivial⟩; clear hE783
             refine p_tn ?_
             refine wp_ret ?_
             refine p_tr ?_
             have hF : F_l_FnBuilding code = false := by unfold F_l_FnBuilding; rw [ht778, hb742, hb687, hb620, hb547, hb464, hb371, ht161, ht148, hb112, ht13]; first | done | rfl
             refine c_ret1 hE784 rfl rfl ?_
             exact ⟨(by rw [hF]; first | done | (dsimp only; done) | rfl), hS323.ext⟩
            ·
             have ht785 := bn_f ht778
             have hp786 := of_decide_eq_true ht785
             have hE787 := hE777; rw [ht778] at hE787; clear hE777
             refine wp_skip ?_
             refine p_tn ?_
             refine c_seq ?_
             refine c_seq ?_
             refine c_reg ?_
             refine q_step (v := .int .i64 0) hE787 (y_assign rfl) rfl rfl rfl ?_; intro a788 hE789; clear hE787
             refine c_nil ?_
             have hE790 := hE789.sub (L' := [(3, .int .i64 ((F_s_DrawJoinFormulas code).1)), (10, .slice b185 (((F_KindCounts ((F_s_DrawJoinFormulas code).2.1)).1).length) c186), (12, .slice b209 (((F_KindCounts ((F_s_DrawJoinFormulas code).2.2)).1).length) c210), (14, .slice b233 (((F_KindCounts ((F_JoinFormulas ((F_s_DrawJoinFormulas code).1) ((F_s_DrawJoinFormulas code).2.1) ((F_s_DrawJoinFormulas code).2.2)).1)).1).length) c234), (27, .int .i64 0)]) ⟨rfl, rfl, rfl, rfl, rfl, trivial⟩; clear hE789
             refine p_tn ?_
             refine c_cut1 (fun a' w' => isOk (F_l_FnBuilding_L1 code (Int.toNat (7 - 0) + 1) 0) = true ∧ (0 ≤ (okD (F_l_FnBuilding_L1 code (Int.toNat (7 - 0) + 1) 0))) ∧ E a' 177 [(3, .int .i64 ((F_s_DrawJoinFormulas code).1)), (10, .slice b185 (((F_KindCounts ((F_s_DrawJoinFormulas code).2.1)).1).length) c186), (12, .slice b209 (((F_KindCounts ((F_s_DrawJoinFormulas code).2.2)).1).length) c210), (14, .slice b233 (((F_KindCounts ((F_JoinFormulas ((F_s_DrawJoinFormulas code).1) ((F_s_DrawJoinFormulas code).2.1) ((F_s_DrawJoinFormulas code).2.2)).1)).1).length) c234), (27, .int .i64 (okD (F_l_FnBuilding_L1 code (Int.toNat (7 - 0) + 1) 0)))] ∧ St w w' [.own 2 1 b233 (((F_KindCounts ((F_JoinFormulas ((F_s_DrawJoinFormulas code).1) ((F_s_DrawJoinFormulas code).2.1) ((F_s_DrawJoinFormulas code).2.2)).1)).1).length) c234 ((F_KindCounts ((F_JoinFormulas ((F_s_DrawJoinFormulas code).1) ((F_s_DrawJoinFormulas code).2.1) ((F_s_DrawJoinFormulas code).2.2)).1)).1), .own 2 1 b209 (((F_KindCounts ((F_s_DrawJoinFormulas code).2.2)).1).length) c210 ((F_KindCounts ((F_s_DrawJoinFormulas code).2.2)).1), .own 2 1 b185 (((F_KindCounts ((F_s_DrawJoinFormulas code).2.1)).1).length) c186 ((F_KindCounts ((F_s_DrawJoinFormulas code).2.1)).1), .own 94 2 b89 (((F_s_JoinFormulas ((F_s_DrawJoinFormulas code).1) ((F_s_DrawJoinFormulas code).2.1) ((F_s_DrawJoinFormulas code).2.2)).1).length / 2 : Nat) c90 ((F_s_JoinFormulas ((F_s_DrawJoinFormulas code).1) ((F_s_DrawJoinFormulas code).2.1) ((F_s_DrawJoinFormulas code).2.2)).1), .own 94 2 b61 (((F_JoinFormulas ((F_s_DrawJoinFormulas code).1) ((F_s_DrawJoinFormulas code).2.1) ((F_s_DrawJoinFormulas code).2.2)).1).length / 2 : Nat) c62 ((F_JoinFormulas ((F_s_DrawJoinFormulas code).1) ((F_s_DrawJoinFormulas code).2.1) ((F_s_DrawJoinFormulas code).2.2)).1), .own 94 2 b27 (((F_s_DrawJoinFormulas code).2.1).length / 2 : Nat) c28 ((F_s_DrawJoinFormulas code).2.1), .own 94 2 b29 (((F_s_DrawJoinFormulas code).2.2).length / 2 : Nat) c30 ((F_s_DrawJoinFormulas code).2.2)]) ?_ ?_
             ·
              refine wp_block ?_
              refine c_loop (fun r a' w' => ∃ k27 : Int, F_l_FnBuilding_L1 code r k27 = F_l_FnBuilding_L1 code (Int.toNat (7 - 0) + 1) 0 ∧ Int.toNat (7 - k27) < r ∧ (0 ≤ k27) ∧ E a' 177 [(3, .int .i64 ((F_s_DrawJoinFormulas code).1)), (10, .slice b185 (((F_KindCounts ((F_s_DrawJoinFormulas code).2.1)).1).length) c186), (12, .slice b209 (((F_KindCounts ((F_s_DrawJoinFormulas code).2.2)).1).length) c210), (14, .slice b233 (((F_KindCounts ((F_JoinFormulas ((F_s_DrawJoinFormulas code).1) ((F_s_DrawJoinFormulas code).2.1) ((F_s_DrawJoinFormulas code).2.2)).1)).1).length) c234), (27, .int .i64 k27)] ∧ St w w' [.own 2 1 b233 (((F_KindCounts ((F_JoinFormulas ((F_s_DrawJoinFormulas code).1) ((F_s_DrawJoinFormulas code).2.1) ((F_s_DrawJoinFormulas code).2.2)).1)).1).length) c234 ((F_KindCounts ((F_JoinFormulas ((F_s_DrawJoinFormulas code).1) ((F_s_DrawJoinFormulas code).2.1) ((F_s_DrawJoinFormulas code).2.2)).1)).1), .own 2 1 b209 (((F_KindCounts ((F_s_DrawJoinFormulas code).2.2)).1).length) c210 ((F_KindCounts ((F_s_DrawJoinFormulas code).2.2)).1), .own 2 1 b185 (((F_KindCounts ((F_s_DrawJoinFormulas code).2.1)).1).length) c186 ((F_KindCounts ((F_s_DrawJoinFormulas code).2.1)).1), .own 94 2 b89 (((F_s_JoinFormulas ((F_s_DrawJoinFormulas code).1) ((F_s_DrawJoinFormulas code).2.1) ((F_s_DrawJoinFormulas code).2.2)).1).length / 2 : Nat) c90 ((F_s_JoinFormulas ((F_s_DrawJoinFormulas code).1) ((F_s_DrawJoinFormulas code).2.1) ((F_s_DrawJoinFormulas code).2.2)).1), .own 94 2 b61 (((F_JoinFormulas ((F_s_DrawJoinFormulas code).1) ((F_s_DrawJoinFormulas code).2.1) ((F_s_DrawJoinFormulas code).2.2)).1).length / 2 : Nat) c62 ((F_JoinFormulas ((F_s_DrawJoinFormulas code).1) ((F_s_DrawJoinFormulas code).2.1) ((F_s_DrawJoinFormulas code).2.2)).1), .own 94 2 b27 (((F_s_DrawJoinFormulas code).2.1).length / 2 : Nat) c28 ((F_s_DrawJoinFormulas code).2.1), .own 94 2 b29 (((F_s_DrawJoinFormulas code).2.2).length / 2 : Nat) c30 ((F_s_DrawJoinFormulas code).2.2)]) (r := (Int.toNat (7 - 0) + 1)) ?_ ?_
              · exact ⟨0, rfl, Nat.lt_succ_self _, (by first | omega | (simp only [sS_len, sL_len]; omega) | (simp only [List.length_replicate, sI_len]; omega) | (simp only [List.length_append, List.length_cons, List.length_nil, sI_len, cond_true, cond_false]; omega) | (simp only [List.length_append, List.length_cons, List.length_nil, sI_len, cond_eq_ite, apply_ite List.length]; split <;> simp only [List.length_append, List.length_cons, List.length_nil, sI_len] <;> omega) | grind), (hE790.sub (L' := [(3, .int .i64 ((F_s_DrawJoinFormulas code).1)), (10, .slice b185 (((F_KindCounts ((F_s_DrawJoinFormulas code).2.1)).1).length) c186), (12, .slice b209 (((F_KindCounts ((F_s_DrawJoinFormulas code).2.2)).1).length) c210), (14, .slice b233 (((F_KindCounts ((F_JoinFormulas ((F_s_DrawJoinFormulas code).1) ((F_s_DrawJoinFormulas code).2.1) ((F_s_DrawJoinFormulas code).2.2)).1)).1).length) c234), (27, .int .i64 0)]) ⟨rfl, rfl, rfl, rfl, rfl, trivial⟩), (St.pick (Γ' := [.own 2 1 b233 (((F_KindCounts ((F_JoinFormulas ((F_s_DrawJoinFormulas code).1) ((F_s_DrawJoinFormulas code).2.1) ((F_s_DrawJoinFormulas code).2.2)).1)).1).length) c234 ((F_KindCounts ((F_JoinFormulas ((F_s_DrawJoinFormulas code).1) ((F_s_DrawJoinFormulas code).2.1) ((F_s_DrawJoinFormulas code).2.2)).1)).1), .own 2 1 b209 (((F_KindCounts ((F_s_DrawJoinFormulas code).2.2)).1).length) c210 ((F_KindCounts ((F_s_DrawJoinFormulas code).2.2)).1), .own 2 1 b185 (((F_KindCounts ((F_s_DrawJoinFormulas code).2.1)).1).length) c186 ((F_KindCounts ((F_s_DrawJoinFormulas code).2.1)).1), .own 94 2 b89 (((F_s_JoinFormulas ((F_s_DrawJoinFormulas code).1) ((F_s_DrawJoinFormulas code).2.1) ((F_s_DrawJoinFormulas code).2.2)).1).length / 2 : Nat) c90 ((F_s_JoinFormulas ((F_s_DrawJoinFormulas code).1) ((F_s_DrawJoinFormulas code).2.1) ((F_s_DrawJoinFormulas code).2.2)).1), .own 94 2 b61 (((F_JoinFormulas ((F_s_DrawJoinFormulas code).1) ((F_s_DrawJoinFormulas code).2.1) ((F_s_DrawJoinFormulas code).2.2)).1).length / 2 : Nat) c62 ((F_JoinFormulas ((F_s_DrawJoinFormulas code).1) ((F_s_DrawJoinFormulas code).2.1) ((F_s_DrawJoinFormulas code).2.2)).1), .own 94 2 b27 (((F_s_DrawJoinFormulas code).2.1).length / 2 : Nat) c28 ((F_s_DrawJoinFormulas code).2.1), .own 94 2 b29 (((F_s_DrawJoinFormulas code).2.2).length / 2 : Nat) c30 ((F_s_DrawJoinFormulas code).2.2)]) hS323 [0, 1, 2, 3, 4, 5, 6] (by decide) rfl)⟩
              ·
               clear hE790 hS323
               rintro r799 a792 w793 ⟨k27, hT796, hr797, hi798, hE794, hS795⟩
               obtain ⟨r799, rfl⟩ : ∃ r', r799 = r' + 1 := ⟨r799 - 1, by omega⟩
               refine c_seq ?_
               refine c_seq ?_
               refine c_reg ?_
               refine q_step (v := .int .i64 k27) hE794 (y_move rfl) rfl rfl rfl ?_; intro a800 hE801; clear hE794
               refine q_step (v := .bool (decide (k27 < 7))) hE801 (y_lss rfl rfl) rfl rfl rfl ?_; intro a802 hE803; clear hE801
               refine c_nil ?_
               have hE804 := hE803.sub (L' := [(3, .int .i64 ((F_s_DrawJoinFormulas code).1)), (10, .slice b185 (((F_KindCounts ((F_s_DrawJoinFormulas code).2.1)).1).length) c186), (12, .slice b209 (((F_KindCounts ((F_s_DrawJoinFormulas code).2.2)).1).length) c210), (14, .slice b233 (((F_KindCounts ((F_JoinFormulas ((F_s_DrawJoinFormulas code).1) ((F_s_DrawJoinFormulas code).2.1) ((F_s_DrawJoinFormulas code).2.2)).1)).1).length) c234), (27, .int .i64 k27), (155, .bool (decide (k27 < 7)))]) ⟨rfl, rfl, rfl, rfl, rfl, rfl, trivial⟩; clear hE803
               refine p_tn ?_
               refine c_cond hE804 rfl (fun ht805 => ?_) (fun ht805 => ?_)
               ·
                have hp806 := of_decide_eq_true ht805
                have hE807 := hE804; rw [ht805] at hE807; clear hE804
                have hk1 := KindCounts_bd ((F_s_DrawJoinFormulas code).2.1) k27
                have hk2 := KindCounts_bd ((F_s_DrawJoinFormulas code).2.2) k27
                refine wp_skip ?_
                refine p_tn ?_
                refine c_seq ?_
                refine wp_block ?_
                refine c_seq ?_
                refine c_reg ?_
                refine q_step (v := .int .i64 0) hE807 (y_assign rfl) rfl rfl rfl ?_; intro a808 hE809; clear hE807
                refine c_nil ?_
                have hE810 := hE809.sub (L' := [(3, .int .i64 ((F_s_DrawJoinFormulas code).1)), (10, .slice b185 (((F_KindCounts ((F_s_DrawJoinFormulas code).2.1)).1).length) c186), (12, .slice b209 (((F_KindCounts ((F_s_DrawJoinFormulas code).2.2)).1).length) c210), (14, .slice b233 (((F_KindCounts ((F_JoinFormulas ((F_s_DrawJoinFormulas code).1) ((F_s_DrawJoinFormulas code).2.1) ((F_s_DrawJoinFormulas code).2.2)).1)).1).length) c234), (27, .int .i64 k27), (28, .int .i64 0)]) ⟨rfl, rfl, rfl, rfl, rfl, rfl, trivial⟩; clear hE809
                refine p_tn ?_
                refine c_seq ?_
                refine c_seq ?_
                refine c_reg ?_
                refine q_step (v := .int .i64 k27) hE810 (y_move rfl) rfl rfl rfl ?_; intro a811 hE812; clear hE810
                refine q_step (v := .int .i64 ((F_s_DrawJoinFormulas code).1)) hE812 (y_move rfl) rfl rfl rfl ?_; intro a813 hE814; clear hE812
                refine q_step (v := .bool (decide (k27 = ((F_s_DrawJoinFormulas code).1)))) hE814 (y_eql rfl rfl) rfl rfl rfl ?_; intro a815 hE816; clear hE814
                refine c_nil ?_
                have hE817 := hE816.sub (L' := [(3, .int .i64 ((F_s_DrawJoinFormulas code).1)), (10, .slice b185 (((F_KindCounts ((F_s_DrawJoinFormulas code).2.1)).1).length) c186), (12, .slice b209 (((F_KindCounts ((F_s_DrawJoinFormulas code).2.2)).1).length) c210), (14, .slice b233 (((F_KindCounts ((F_JoinFormulas ((F_s_DrawJoinFormulas code).1) ((F_s_DrawJoinFormulas code).2.1) ((F_s_DrawJoinFormulas code).2.2)).1)).1).length) c234), (27, .int .i64 k27), (28, .int .i64 0), (160, .bool (decide (k27 = ((F_s_DrawJoinFormulas code).1))))]) ⟨rfl, rfl, rfl, rfl, rfl, rfl, rfl, trivial⟩; clear hE816
                refine p_tn ?_
                refine c_cond hE817 rfl (fun ht818 => ?_) (fun ht818 => ?_)
                ·
                 have hp819 := of_decide_eq_true ht818
                 have hE820 := hE817; rw [ht818] at hE820; clear hE817
                 refine c_reg ?_
                 refine q_step (v := .int .i64 1) hE820 (y_assign rfl) rfl rfl rfl ?_; intro a821 hE822; clear hE820
                 refine c_nil ?_
                 have hE823 := hE822.sub (L' := [(3, .int .i64 ((F_s_DrawJoinFormulas code).1)), (10, .slice b185 (((F_KindCounts ((F_s_DrawJoinFormulas code).2.1)).1).length) c186), (12, .slice b209 (((F_KindCounts ((F_s_DrawJoinFormulas code).2.2)).1).length) c210), (14, .slice b233 (((F_KindCounts ((F_JoinFormulas ((F_s_DrawJoinFormulas code).1) ((F_s_DrawJoinFormulas code).2.1) ((F_s_DrawJoinFormulas code).2.2)).1)).1).length) c234), (27, .int .i64 k27), (28, .int .i64 1)]) ⟨rfl, rfl, rfl, rfl, rfl, rfl, trivial⟩; clear hE822
                 refine p_tn ?_
                 refine c_seq ?_
                 refine d_start (fun w w' => (fun w' => w'.cell? (adr b233 (Int.toNat k27)) = some (.int .i64 (gI ((F_KindCounts ((F_JoinFormulas ((F_s_DrawJoinFormulas code).1) ((F_s_DrawJoinFormulas code).2.1) ((F_s_DrawJoinFormulas code).2.2)).1)).1) k27)) ∧ w'.cell? (adr b185 (Int.toNat k27)) = some (.int .i64 (gI ((F_KindCounts ((F_s_DrawJoinFormulas code).2.1)).1) k27)) ∧ w'.cell? (adr b209 (Int.toNat k27)) = some (.int .i64 (gI ((F_KindCounts ((F_s_DrawJoinFormulas code).2.2)).1) k27)) ∧ True) w → (fun w' => w'.cell? (adr b233 (Int.toNat k27)) = some (.int .i64 (gI ((F_KindCounts ((F_JoinFormulas ((F_s_DrawJoinFormulas code).1) ((F_s_DrawJoinFormulas code).2.1) ((F_s_DrawJoinFormulas code).2.2)).1)).1) k27)) ∧ w'.cell? (adr b185 (Int.toNat k27)) = some (.int .i64 (gI ((F_KindCounts ((F_s_DrawJoinFormulas code).2.1)).1) k27)) ∧ w'.cell? (adr b209 (Int.toNat k27)) = some (.int .i64 (gI ((F_KindCounts ((F_s_DrawJoinFormulas code).2.2)).1) k27)) ∧ True) w') [3, 7, 11] 16 (by kernel_rfl) rfl ?_
                 intro w824 he825; have hS826 := St.go hS795 he825; clear hS795
                 refine d_pure (fun _ h => h) (v := .slice b233 (((F_KindCounts ((F_JoinFormulas ((F_s_DrawJoinFormulas code).1) ((F_s_DrawJoinFormulas code).2.1) ((F_s_DrawJoinFormulas code).2.2)).1)).1).length) c234) 0 rfl hE823 (y_move rfl) rfl (by kernel_rfl) (by kernel_rfl) (by kernel_rfl) rfl rfl (fun _ _ _ h => h) ?_; intro a827 hE828; clear hE823
                 refine d_pure (fun _ h => h) (v := .int .i64 k27) 1 rfl hE828 (y_move rfl) rfl (by kernel_rfl) (by kernel_rfl) (by kernel_rfl) rfl rfl (fun _ _ _ h => h) ?_; intro a829 hE830; clear hE828
                 refine d_pure (fun _ h => h) (v := .pointer (some (adr b233 (Int.toNat k27)))) 2 rfl hE830 (y_idx (by kernel_rfl) (fun _ => by kernel_rfl) rfl rfl (RdS.isS (m := k27) (St.rdO (i := 0) hS826 rfl) (by omega) (by omega)) (by omega) (by omega) (Nat.mul_one _).symm) rfl (by kernel_rfl) (by kernel_rfl) (by kernel_rfl) rfl rfl (fun _ _ _ h => h) ?_; intro a831 hE832; clear hE830
                 refine d_take (fun _ h => h) (fun _ _ h k => h k) (v := .int .i64 (gI ((F_KindCounts ((F_JoinFormulas ((F_s_DrawJoinFormulas code).1) ((F_s_DrawJoinFormulas code).2.1) ((F_s_DrawJoinFormulas code).2.2)).1)).1) k27)) 3 rfl hE832 (S := fun w' => w'.cell? (adr b233 (Int.toNat k27)) = some (.int .i64 (gI ((F_KindCounts ((F_JoinFormulas ((F_s_DrawJoinFormulas code).1) ((F_s_DrawJoinFormulas code).2.1) ((F_s_DrawJoinFormulas code).2.2)).1)).1) k27)) ∧ w'.cell? (adr b185 (Int.toNat k27)) = some (.int .i64 (gI ((F_KindCounts ((F_s_DrawJoinFormulas code).2.1)).1) k27)) ∧ w'.cell? (adr b209 (Int.toNat k27)) = some (.int .i64 (gI ((F_KindCounts ((F_s_DrawJoinFormulas code).2.2)).1) k27)) ∧ True) ⟨(RdS.elt (St.rdO (i := 0) hS826 rfl) (by omega) (by omega) _ (Ext.refl _)), (RdS.elt (St.rdO (i := 2) hS826 rfl) (by omega) (by omega) _ (Ext.refl _)), (RdS.elt (St.rdO (i := 1) hS826 rfl) (by omega) (by omega) _ (Ext.refl _)), trivial⟩ (y_load (fun _ => by kernel_rfl) rfl (fun _ h => h.1)) rfl rfl (by kernel_rfl) (by kernel_rfl) (by kernel_rfl) (by kernel_rfl) rfl rfl (fun _ _ _ h => h) ?_; intro a833 hE834; clear hE832
                 refine d_pure (fun _ h => h) (v := .slice b185 (((F_KindCounts ((F_s_DrawJoinFormulas code).2.1)).1).length) c186) 4 rfl hE834 (y_move rfl) rfl (by kernel_rfl) (by kernel_rfl) (by kernel_rfl) rfl rfl (fun _ _ _ h => h) ?_; intro a835 hE836; clear hE834
                 refine d_pure (fun _ h => h) (v := .int .i64 k27) 5 rfl hE836 (y_move rfl) rfl (by kernel_rfl) (by kernel_rfl) (by kernel_rfl) rfl rfl (fun _ _ _ h => h) ?_; intro a837 hE838; clear hE836
                 refine d_pure (fun _ h => h) (v := .pointer (some (adr b185 (Int.toNat k27)))) 6 rfl hE838 (y_idx (by kernel_rfl) (fun _ => by kernel_rfl) rfl rfl (RdS.isS (m := k27) (St.rdO (i := 2) hS826 rfl) (by omega) (by omega)) (by omega) (by omega) (Nat.mul_one _).symm) rfl (by kernel_rfl) (by kernel_rfl) (by kernel_rfl) rfl rfl (fun _ _ _ h => h) ?_; intro a839 hE840; clear hE838
                 refine d_take (fun _ h => h) (fun _ _ h k => h k) (v := .int .i64 (gI ((F_KindCounts ((F_s_DrawJoinFormulas code).2.1)).1) k27)) 7 rfl hE840 (S := fun w' => w'.cell? (adr b233 (Int.toNat k27)) = some (.int .i64 (gI ((F_KindCounts ((F_JoinFormulas ((F_s_DrawJoinFormulas code).1) ((F_s_DrawJoinFormulas code).2.1) ((F_s_DrawJoinFormulas code).2.2)).1)).1) k27)) ∧ w'.cell? (adr b185 (Int.toNat k27)) = some (.int .i64 (gI ((F_KindCounts ((F_s_DrawJoinFormulas code).2.1)).1) k27)) ∧ w'.cell? (adr b209 (Int.toNat k27)) = some (.int .i64 (gI ((F_KindCounts ((F_s_DrawJoinFormulas code).2.2)).1) k27)) ∧ True) ⟨(RdS.elt (St.rdO (i := 0) hS826 rfl) (by omega) (by omega) _ (Ext.refl _)), (RdS.elt (St.rdO (i := 2) hS826 rfl) (by omega) (by omega) _ (Ext.refl _)), (RdS.elt (St.rdO (i := 1) hS826 rfl) (by omega) (by omega) _ (Ext.refl _)), trivial⟩ (y_load (fun _ => by kernel_rfl) rfl (fun _ h => h.2.1)) rfl rfl (by kernel_rfl) (by kernel_rfl) (by kernel_rfl) (by kernel_rfl) rfl rfl (fun _ _ _ h => h) ?_; intro a841 hE842; clear hE840
                 refine d_pure (fun _ h => h) (v := .slice b209 (((F_KindCounts ((F_s_DrawJoinFormulas code).2.2)).1).length) c210) 8 rfl hE842 (y_move rfl) rfl (by kernel_rfl) (by kernel_rfl) (by kernel_rfl) rfl rfl (fun _ _ _ h => h) ?_; intro a843 hE844; clear hE842
                 refine d_pure (fun _ h => h) (v := .int .i64 k27) 9 rfl hE844 (y_move rfl) rfl (by kernel_rfl) (by kernel_rfl) (by kernel_rfl) rfl rfl (fun _ _ _ h => h) ?_; intro a845 hE846; clear hE844
                 refine d_pure (fun _ h => h) (v := .pointer (some (adr b209 (Int.toNat k27)))) 10 rfl hE846 (y_idx (by kernel_rfl) (fun _ => by kernel_rfl) rfl rfl (RdS.isS (m := k27) (St.rdO (i := 1) hS826 rfl) (by omega) (by omega)) (by omega) (by omega) (Nat.mul_one _).symm) rfl (by kernel_rfl) (by kernel_rfl) (by kernel_rfl) rfl rfl (fun _ _ _ h => h) ?_; intro a847 hE848; clear hE846
                 refine d_take (fun _ h => h) (fun _ _ h k => h k) (v := .int .i64 (gI ((F_KindCounts ((F_s_DrawJoinFormulas code).2.2)).1) k27)) 11 rfl hE848 (S := fun w' => w'.cell? (adr b233 (Int.toNat k27)) = some (.int .i64 (gI ((F_KindCounts ((F_JoinFormulas ((F_s_DrawJoinFormulas code).1) ((F_s_DrawJoinFormulas code).2.1) ((F_s_DrawJoinFormulas code).2.2)).1)).1) k27)) ∧ w'.cell? (adr b185 (Int.toNat k27)) = some (.int .i64 (gI ((F_KindCounts ((F_s_DrawJoinFormulas code).2.1)).1) k27)) ∧ w'.cell? (adr b209 (Int.toNat k27)) = some (.int .i64 (gI ((F_KindCounts ((F_s_DrawJoinFormulas code).2.2)).1) k27)) ∧ True) ⟨(RdS.elt (St.rdO (i := 0) hS826 rfl) (by omega) (by omega) _ (Ext.refl _)), (RdS.elt (St.rdO (i := 2) hS826 rfl) (by omega) (by omega) _ (Ext.refl _)), (RdS.elt (St.rdO (i := 1) hS826 rfl) (by omega) (by omega) _ (Ext.refl _)), trivial⟩ (y_load (fun _ => by kernel_rfl) rfl (fun _ h => h.2.2.1)) rfl rfl (by kernel_rfl) (by kernel_rfl) (by kernel_rfl) (by kernel_rfl) rfl rfl (fun _ _ _ h => h) ?_; intro a849 hE850; clear hE848
                 refine d_pure (fun _ h => h) (v := .int .i64 ((gI ((F_KindCounts ((F_s_DrawJoinFormulas code).2.1)).1) k27) + (gI ((F_KindCounts ((F_s_DrawJoinFormulas code).2.2)).1) k27))) 12 rfl hE850 (y_add rfl rfl ⟨(by omega), (by omega)⟩) rfl (by kernel_rfl) (by kernel_rfl) (by kernel_rfl) rfl rfl (fun _ _ _ h => h) ?_; intro a851 hE852; clear hE850
                 refine d_pure (fun _ h => h) (v := .int .i64 1) 13 rfl hE852 (y_move rfl) rfl (by kernel_rfl) (by kernel_rfl) (by kernel_rfl) rfl rfl (fun _ _ _ h => h) ?_; intro a853 hE854; clear hE852
                 refine d_pure (fun _ h => h) (v := .int .i64 (((gI ((F_KindCounts ((F_s_DrawJoinFormulas code).2.1)).1) k27) + (gI ((F_KindCounts ((F_s_DrawJoinFormulas code).2.2)).1) k27)) + 1)) 14 rfl hE854 (y_add rfl rfl ⟨(by omega), (by omega)⟩) rfl (by kernel_rfl) (by kernel_rfl) (by kernel_rfl) rfl rfl (fun _ _ _ h => h) ?_; intro a855 hE856; clear hE854
                 refine d_pure (fun _ h => h) (v := .bool (!decide ((gI ((F_KindCounts ((F_JoinFormulas ((F_s_DrawJoinFormulas code).1) ((F_s_DrawJoinFormulas code).2.1) ((F_s_DrawJoinFormulas code).2.2)).1)).1) k27) = (((gI ((F_KindCounts ((F_s_DrawJoinFormulas code).2.1)).1) k27) + (gI ((F_KindCounts ((F_s_DrawJoinFormulas code).2.2)).1) k27)) + 1)))) 15 rfl hE856 (y_neq rfl rfl) rfl (by kernel_rfl) (by kernel_rfl) (by kernel_rfl) rfl rfl (fun _ _ _ h => h) ?_; intro a857 hE858; clear hE856
                 refine d_done (by kernel_rfl) ?_
                 have hE859 := hE858.sub (L' := [(3, .int .i64 ((F_s_DrawJoinFormulas code).1)), (10, .slice b185 (((F_KindCounts ((F_s_DrawJoinFormulas code).2.1)).1).length) c186), (12, .slice b209 (((F_KindCounts ((F_s_DrawJoinFormulas code).2.2)).1).length) c210), (14, .slice b233 (((F_KindCounts ((F_JoinFormulas ((F_s_DrawJoinFormulas code).1) ((F_s_DrawJoinFormulas code).2.1) ((F_s_DrawJoinFormulas code).2.2)).1)).1).length) c234), (27, .int .i64 k27), (176, .bool (!decide ((gI ((F_KindCounts ((F_JoinFormulas ((F_s_DrawJoinFormulas code).1) ((F_s_DrawJoinFormulas code).2.1) ((F_s_DrawJoinFormulas code).2.2)).1)).1) k27) = (((gI ((F_KindCounts ((F_s_DrawJoinFormulas code).2.1)).1) k27) + (gI ((F_KindCounts ((F_s_DrawJoinFormulas code).2.2)).1) k27)) + 1))))]) ⟨rfl, rfl, rfl, rfl, rfl, rfl, trivial⟩; clear hE858
                 refine p_tn ?_
                 refine c_cond hE859 rfl (fun ht860 => ?_) (fun ht860 => ?_)
                 ·
                  have ht861 := bn_t ht860
                  have hp862 := of_decide_eq_false ht861
                  have hE863 := hE859; rw [ht860] at hE863; clear hE859
                  refine c_seq ?_
                  refine c_reg ?_
                  refine q_step (v := .bool false) hE863 (y_assign rfl) rfl rfl rfl ?_; intro a864 hE865; clear hE863
                  refine c_nil ?_
                  have hE866 := hE865.sub (L' := [(2, .bool false)]) ⟨rfl, trivial⟩; clear hE865
                  refine p_tn ?_
                  refine wp_ret ?_
                  refine p_br ?_
                  refine p_tr ?_
                  have hX867 : F_l_FnBuilding_L1 code (Int.toNat (7 - 0) + 1) 0 = .error false := hT796.symm.trans (show F_l_FnBuilding_L1b code (F_l_FnBuilding_L1 code r799) k27 = .error false by unfold F_l_FnBuilding_L1b; rw [ht860, ht818, ht805]; first | done | rfl)
                  refine p_tr (p_br (p_tr ?_))
                  refine p_tr ?_
                  have hF : F_l_FnBuilding code = false := by unfold F_l_FnBuilding; rw [hX867, ht778, hb742, hb687, hb620, hb547, hb464, hb371, ht161, ht148, hb112, ht13]; first | done | rfl
                  refine c_ret1 hE866 rfl rfl ?_
                  exact ⟨(by rw [hF]; first | done | (dsimp only; done) | rfl), hS826.ext⟩
                 ·
                  have ht868 := bn_f ht860
                  have hp869 := of_decide_eq_true ht868
                  have hE870 := hE859; rw [ht860] at hE870; clear hE859
                  refine wp_skip ?_
                  refine p_bn ?_
                  refine p_tn ?_
                  refine c_reg ?_
                  refine q_step (v := .int .i64 k27) hE870 (y_move rfl) rfl rfl rfl ?_; intro a871 hE872; clear hE870
                  refine q_step (v := .int .i64 (k27 + 1)) hE872 (y_add rfl rfl ⟨(by omega), (by omega)⟩) rfl rfl rfl ?_; intro a873 hE874; clear hE872
                  refine q_step (v := .int .i64 (k27 + 1)) hE874 (y_assign rfl) rfl rfl rfl ?_; intro a875 hE876; clear hE874
                  refine c_nil ?_
                  have hE877 := hE876.sub (L' := [(3, .int .i64 ((F_s_DrawJoinFormulas code).1)), (10, .slice b185 (((F_KindCounts ((F_s_DrawJoinFormulas code).2.1)).1).length) c186), (12, .slice b209 (((F_KindCounts ((F_s_DrawJoinFormulas code).2.2)).1).length) c210), (14, .slice b233 (((F_KindCounts ((F_JoinFormulas ((F_s_DrawJoinFormulas code).1) ((F_s_DrawJoinFormulas code).2.1) ((F_s_DrawJoinFormulas code).2.2)).1)).1).length) c234), (27, .int .i64 (k27 + 1))]) ⟨rfl, rfl, rfl, rfl, rfl, trivial⟩; clear hE876
                  refine p_tn ⟨r799, Nat.lt_succ_self _, k27 + 1, (hT796.symm.trans (show F_l_FnBuilding_L1b code (F_l_FnBuilding_L1 code r799) k27 = F_l_FnBuilding_L1 code r799 (k27 + 1) by unfold F_l_FnBuilding_L1b; rw [ht860, ht818, ht805]; first | done | rfl)).symm, (by omega), (by first | omega | (simp only [sS_len, sL_len]; omega) | (simp only [List.length_replicate, sI_len]; omega) | (simp only [List.length_append, List.length_cons, List.length_nil, sI_len, cond_true, cond_false]; omega) | (simp only [List.length_append, List.length_cons, List.length_nil, sI_len, cond_eq_ite, apply_ite List.length]; split <;> simp only [List.length_append, List.length_cons, List.length_nil, sI_len] <;> omega) | grind), (hE877.sub (L' := [(3, .int .i64 ((F_s_DrawJoinFormulas code).1)), (10, .slice b185 (((F_KindCounts ((F_s_DrawJoinFormulas code).2.1)).1).length) c186), (12, .slice b209 (((F_KindCounts ((F_s_DrawJoinFormulas code).2.2)).1).length) c210), (14, .slice b233 (((F_KindCounts ((F_JoinFormulas ((F_s_DrawJoinFormulas code).1) ((F_s_DrawJoinFormulas code).2.1) ((F_s_DrawJoinFormulas code).2.2)).1)).1).length) c234), (27, .int .i64 (k27 + 1))]) ⟨rfl, rfl, rfl, rfl, rfl, trivial⟩), (St.pick (Γ' := [.own 2 1 b233 (((F_KindCounts ((F_JoinFormulas ((F_s_DrawJoinFormulas code).1) ((F_s_DrawJoinFormulas code).2.1) ((F_s_DrawJoinFormulas code).2.2)).1)).1).length) c234 ((F_KindCounts ((F_JoinFormulas ((F_s_DrawJoinFormulas code).1) ((F_s_DrawJoinFormulas code).2.1) ((F_s_DrawJoinFormulas code).2.2)).1)).1), .own 2 1 b209 (((F_KindCounts ((F_s_DrawJoinFormulas code).2.2)).1).length) c210 ((F_KindCounts ((F_s_DrawJoinFormulas code).2.2)).1), .own 2 1 b185 (((F_KindCounts ((F_s_DrawJoinFormulas code).2.1)).1).length) c186 ((F_KindCounts ((F_s_DrawJoinFormulas code).2.1)).1), .own 94 2 b89 (((F_s_JoinFormulas ((F_s_DrawJoinFormulas code).1) ((F_s_DrawJoinFormulas code).2.1) ((F_s_DrawJoinFormulas code).2.2)).1).length / 2 : Nat) c90 ((F_s_JoinFormulas ((F_s_DrawJoinFormulas code).1) ((F_s_DrawJoinFormulas code).2.1) ((F_s_DrawJoinFormulas code).2.2)).1), .own 94 2 b61 (((F_JoinFormulas ((F_s_DrawJoinFormulas code).1) ((F_s_DrawJoinFormulas code).2.1) ((F_s_DrawJoinFormulas code).2.2)).1).length / 2 : Nat) c62 ((F_JoinFormulas ((F_s_DrawJoinFormulas code).1) ((F_s_DrawJoinFormulas code).2.1) ((F_s_DrawJoinFormulas code).2.2)).1), .own 94 2 b27 (((F_s_DrawJoinFormulas code).2.1).length / 2 : Nat) c28 ((F_s_DrawJoinFormulas code).2.1), .own 94 2 b29 (((F_s_DrawJoinFormulas code).2.2).length / 2 : Nat) c30 ((F_s_DrawJoinFormulas code).2.2)]) hS826 [0, 1, 2, 3, 4, 5, 6] (by decide) rfl)⟩
                ·
                 have hp878 := of_decide_eq_false ht818
                 have hE879 := hE817; rw [ht818] at hE879; clear hE817
                 refine wp_skip ?_
                 refine p_tn ?_
                 refine c_seq ?_
                 refine d_start (fun w w' => (fun w' => w'.cell? (adr b233 (Int.toNat k27)) = some (.int .i64 (gI ((F_KindCounts ((F_JoinFormulas ((F_s_DrawJoinFormulas code).1) ((F_s_DrawJoinFormulas code).2.1) ((F_s_DrawJoinFormulas code).2.2)).1)).1) k27)) ∧ w'.cell? (adr b185 (Int.toNat k27)) = some (.int .i64 (gI ((F_KindCounts ((F_s_DrawJoinFormulas code).2.1)).1) k27)) ∧ w'.cell? (adr b209 (Int.toNat k27)) = some (.int .i64 (gI ((F_KindCounts ((F_s_DrawJoinFormulas code).2.2)).1) k27)) ∧ True) w → (fun w' => w'.cell? (adr b233 (Int.toNat k27)) = some (.int .i64 (gI ((F_KindCounts ((F_JoinFormulas ((F_s_DrawJoinFormulas code).1) ((F_s_DrawJoinFormulas code).2.1) ((F_s_DrawJoinFormulas code).2.2)).1)).1) k27)) ∧ w'.cell? (adr b185 (Int.toNat k27)) = some (.int .i64 (gI ((F_KindCounts ((F_s_DrawJoinFormulas code).2.1)).1) k27)) ∧ w'.cell? (adr b209 (Int.toNat k27)) = some (.int .i64 (gI ((F_KindCounts ((F_s_DrawJoinFormulas code).2.2)).1) k27)) ∧ True) w') [3, 7, 11] 16 (by kernel_rfl) rfl ?_
                 intro w880 he881; have hS882 := St.go hS795 he881; clear hS795
                 refine d_pure (fun _ h => h) (v := .slice b233 (((F_KindCounts ((F_JoinFormulas ((F_s_DrawJoinFormulas code).1) ((F_s_DrawJoinFormulas code).2.1) ((F_s_DrawJoinFormulas code).2.2)).1)).1).length) c234) 0 rfl hE879 (y_move rfl) rfl (by kernel_rfl) (by kernel_rfl) (by kernel_rfl) rfl rfl (fun _ _ _ h => h) ?_; intro a883 hE884; clear hE879
                 refine d_pure (fun _ h => h) (v := .int .i64 k27) 1 rfl hE884 (y_move rfl) rfl (by kernel_rfl) (by kernel_rfl) (by kernel_rfl) rfl rfl (fun _ _ _ h => h) ?_; intro a885 hE886; clear hE884
                 refine d_pure (fun _ h => h) (v := .pointer (some (adr b233 (Int.toNat k27)))) 2 rfl hE886 (y_idx (by kernel_rfl) (fun _ => by kernel_rfl) rfl rfl (RdS.isS (m := k27) (St.rdO (i := 0) hS882 rfl) (by omega) (by omega)) (by omega) (by omega) (Nat.mul_one _).symm) rfl (by kernel_rfl) (by kernel_rfl) (by kernel_rfl) rfl rfl (fun _ _ _ h => h) ?_; intro a887 hE888; clear hE886
                 refine d_take (fun _ h => h) (fun _ _ h k => h k) (v := .int .i64 (gI ((F_KindCounts ((F_JoinFormulas ((F_s_DrawJoinFormulas code).1) ((F_s_DrawJoinFormulas code).2.1) ((F_s_DrawJoinFormulas code).2.2)).1)).1) k27)) 3 rfl hE888 (S := fun w' => w'.cell? (adr b233 (Int.toNat k27)) = some (.int .i64 (gI ((F_KindCounts ((F_JoinFormulas ((F_s_DrawJoinFormulas code).1) ((F_s_DrawJoinFormulas code).2.1) ((F_s_DrawJoinFormulas code).2.2)).1)).1) k27)) ∧ w'.cell? (adr b185 (Int.toNat k27)) = some (.int .i64 (gI ((F_KindCounts ((F_s_DrawJoinFormulas code).2.1)).1) k27)) ∧ w'.cell? (adr b209 (Int.toNat k27)) = some (.int .i64 (gI ((F_KindCounts ((F_s_DrawJoinFormulas code).2.2)).1) k27)) ∧ True) ⟨(RdS.elt (St.rdO (i := 0) hS882 rfl) (by omega) (by omega) _ (Ext.refl _)), (RdS.elt (St.rdO (i := 2) hS882 rfl) (by omega) (by omega) _ (Ext.refl _)), (RdS.elt (St.rdO (i := 1) hS882 rfl) (by omega) (by omega) _ (Ext.refl _)), trivial⟩ (y_load (fun _ => by kernel_rfl) rfl (fun _ h => h.1)) rfl rfl (by kernel_rfl) (by kernel_rfl) (by kernel_rfl) (by kernel_rfl) rfl rfl (fun _ _ _ h => h) ?_; intro a889 hE890; clear hE888
                 refine d_pure (fun _ h => h) (v := .slice b185 (((F_KindCounts ((F_s_DrawJoinFormulas code).2.1)).1).length) c186) 4 rfl hE890 (y_move rfl) rfl (by kernel_rfl) (by kernel_rfl) (by kernel_rfl) rfl rfl (fun _ _ _ h => h) ?_; intro a891 hE892; clear hE890
                 refine d_pure (fun _ h => h) (v := .int .i64 k27) 5 rfl hE892 (y_move rfl) rfl (by kernel_rfl) (by kernel_rfl) (by kernel_rfl) rfl rfl (fun _ _ _ h => h) ?_; intro a893 hE894; clear hE892
                 refine d_pure (fun _ h => h) (v := .pointer (some (adr b185 (Int.toNat k27)))) 6 rfl hE894 (y_idx (by kernel_rfl) (fun _ => by kernel_rfl) rfl rfl (RdS.isS (m := k27) (St.rdO (i := 2) hS882 rfl) (by omega) (by omega)) (by omega) (by omega) (Nat.mul_one _).symm) rfl (by kernel_rfl) (by kernel_rfl) (by kernel_rfl) rfl rfl (fun _ _ _ h => h) ?_; intro a895 hE896; clear hE894
                 refine d_take (fun _ h => h) (fun _ _ h k => h k) (v := .int .i64 (gI ((F_KindCounts ((F_s_DrawJoinFormulas code).2.1)).1) k27)) 7 rfl hE896 (S := fun w' => w'.cell? (adr b233 (Int.toNat k27)) = some (.int .i64 (gI ((F_KindCounts ((F_JoinFormulas ((F_s_DrawJoinFormulas code).1) ((F_s_DrawJoinFormulas code).2.1) ((F_s_DrawJoinFormulas code).2.2)).1)).1) k27)) ∧ w'.cell? (adr b185 (Int.toNat k27)) = some (.int .i64 (gI ((F_KindCounts ((F_s_DrawJoinFormulas code).2.1)).1) k27)) ∧ w'.cell? (adr b209 (Int.toNat k27)) = some (.int .i64 (gI ((F_KindCounts ((F_s_DrawJoinFormulas code).2.2)).1) k27)) ∧ True) ⟨(RdS.elt (St.rdO (i := 0) hS882 rfl) (by omega) (by omega) _ (Ext.refl _)), (RdS.elt (St.rdO (i := 2) hS882 rfl) (by omega) (by omega) _ (Ext.refl _)), (RdS.elt (St.rdO (i := 1) hS882 rfl) (by omega) (by omega) _ (Ext.refl _)), trivial⟩ (y_load (fun _ => by kernel_rfl) rfl (fun _ h => h.2.1)) rfl rfl (by kernel_rfl) (by kernel_rfl) (by kernel_rfl) (by kernel_rfl) rfl rfl (fun _ _ _ h => h) ?_; intro a897 hE898; clear hE896
                 refine d_pure (fun _ h => h) (v := .slice b209 (((F_KindCounts ((F_s_DrawJoinFormulas code).2.2)).1).length) c210) 8 rfl hE898 (y_move rfl) rfl (by kernel_rfl) (by kernel_rfl) (by kernel_rfl) rfl rfl (fun _ _ _ h => h) ?_; intro a899 hE900; clear hE898
                 refine d_pure (fun _ h => h) (v := .int .i64 k27) 9 rfl hE900 (y_move rfl) rfl (by kernel_rfl) (by kernel_rfl) (by kernel_rfl) rfl rfl (fun _ _ _ h => h) ?_; intro a901 hE902; clear hE900
                 refine d_pure (fun _ h => h) (v := .pointer (some (adr b209 (Int.toNat k27)))) 10 rfl hE902 (y_idx (by kernel_rfl) (fun _ => by kernel_rfl) rfl rfl (RdS.isS (m := k27) (St.rdO (i := 1) hS882 rfl) (by omega) (by omega)) (by omega) (by omega) (Nat.mul_one _).symm) rfl (by kernel_rfl) (by kernel_rfl) (by kernel_rfl) rfl rfl (fun _ _ _ h => h) ?_; intro a903 hE904; clear hE902
                 refine d_take (fun _ h => h) (fun _ _ h k => h k) (v := .int .i64 (gI ((F_KindCounts ((F_s_DrawJoinFormulas code).2.2)).1) k27)) 11 rfl hE904 (S := fun w' => w'.cell? (adr b233 (Int.toNat k27)) = some (.int .i64 (gI ((F_KindCounts ((F_JoinFormulas ((F_s_DrawJoinFormulas code).1) ((F_s_DrawJoinFormulas code).2.1) ((F_s_DrawJoinFormulas code).2.2)).1)).1) k27)) ∧ w'.cell? (adr b185 (Int.toNat k27)) = some (.int .i64 (gI ((F_KindCounts ((F_s_DrawJoinFormulas code).2.1)).1) k27)) ∧ w'.cell? (adr b209 (Int.toNat k27)) = some (.int .i64 (gI ((F_KindCounts ((F_s_DrawJoinFormulas code).2.2)).1) k27)) ∧ True) ⟨(RdS.elt (St.rdO (i := 0) hS882 rfl) (by omega) (by omega) _ (Ext.refl _)), (RdS.elt (St.rdO (i := 2) hS882 rfl) (by omega) (by omega) _ (Ext.refl _)), (RdS.elt (St.rdO (i := 1) hS882 rfl) (by omega) (by omega) _ (Ext.refl _)), trivial⟩ (y_load (fun _ => by kernel_rfl) rfl (fun _ h => h.2.2.1)) rfl rfl (by kernel_rfl) (by kernel_rfl) (by kernel_rfl) (by kernel_rfl) rfl rfl (fun _ _ _ h => h) ?_; intro a905 hE906; clear hE904
                 refine d_pure (fun _ h => h) (v := .int .i64 ((gI ((F_KindCounts ((F_s_DrawJoinFormulas code).2.1)).1) k27) + (gI ((F_KindCounts ((F_s_DrawJoinFormulas code).2.2)).1) k27))) 12 rfl hE906 (y_add rfl rfl ⟨(by omega), (by omega)⟩) rfl (by kernel_rfl) (by kernel_rfl) (by kernel_rfl) rfl rfl (fun _ _ _ h => h) ?_; intro a907 hE908; clear hE906
                 refine d_pure (fun _ h => h) (v := .int .i64 0) 13 rfl hE908 (y_move rfl) rfl (by kernel_rfl) (by kernel_rfl) (by kernel_rfl) rfl rfl (fun _ _ _ h => h) ?_; intro a909 hE910; clear hE908
                 refine d_pure (fun _ h => h) (v := .int .i64 (((gI ((F_KindCounts ((F_s_DrawJoinFormulas code).2.1)).1) k27) + (gI ((F_KindCounts ((F_s_DrawJoinFormulas code).2.2)).1) k27)) + 0)) 14 rfl hE910 (y_add rfl rfl ⟨(by omega), (by omega)⟩) rfl (by kernel_rfl) (by kernel_rfl) (by kernel_rfl) rfl rfl (fun _ _ _ h => h) ?_; intro a911 hE912; clear hE910
                 refine d_pure (fun _ h => h) (v := .bool (!decide ((gI ((F_KindCounts ((F_JoinFormulas ((F_s_DrawJoinFormulas code).1) ((F_s_DrawJoinFormulas code).2.1) ((F_s_DrawJoinFormulas code).2.2)).1)).1) k27) = (((gI ((F_KindCounts ((F_s_DrawJoinFormulas code).2.1)).1) k27) + (gI ((F_KindCounts ((F_s_DrawJoinFormulas code).2.2)).1) k27)) + 0)))) 15 rfl hE912 (y_neq rfl rfl) rfl (by kernel_rfl) (by kernel_rfl) (by kernel_rfl) rfl rfl (fun _ _ _ h => h) ?_; intro a913 hE914; clear hE912
                 refine d_done (by kernel_rfl) ?_
                 have hE915 := hE914.sub (L' := [(3, .int .i64 ((F_s_DrawJoinFormulas code).1)), (10, .slice b185 (((F_KindCounts ((F_s_DrawJoinFormulas code).2.1)).1).length) c186), (12, .slice b209 (((F_KindCounts ((F_s_DrawJoinFormulas code).2.2)).1).length) c210), (14, .slice b233 (((F_KindCounts ((F_JoinFormulas ((F_s_DrawJoinFormulas code).1) ((F_s_DrawJoinFormulas code).2.1) ((F_s_DrawJoinFormulas code).2.2)).1)).1).length) c234), (27, .int .i64 k27), (176, .bool (!decide ((gI ((F_KindCounts ((F_JoinFormulas ((F_s_DrawJoinFormulas code).1) ((F_s_DrawJoinFormulas code).2.1) ((F_s_DrawJoinFormulas code).2.2)).1)).1) k27) = (((gI ((F_KindCounts ((F_s_DrawJoinFormulas code).2.1)).1) k27) + (gI ((F_KindCounts ((F_s_DrawJoinFormulas code).2.2)).1) k27)) + 0))))]) ⟨rfl, rfl, rfl, rfl, rfl, rfl, trivial⟩; clear hE914
                 refine p_tn ?_
                 refine c_cond hE915 rfl (fun ht916 => ?_) (fun ht916 => ?_)
                 ·
                  have ht917 := bn_t ht916
                  have hp918 := of_decide_eq_false ht917
                  have hE919 := hE915; rw [ht916] at hE919; clear hE915
                  refine c_seq ?_
                  refine c_reg ?_
                  refine q_step (v := .bool false) hE919 (y_assign rfl) rfl rfl rfl ?_; intro a920 hE921; clear hE919
                  refine c_nil ?_
                  have hE922 := hE921.sub (L' := [(2, .bool false)]) ⟨rfl, trivial⟩; clear hE921
                  refine p_tn ?_
                  refine wp_ret ?_
                  refine p_br ?_
                  refine p_tr ?_
                  have hX923 : F_l_FnBuilding_L1 code (Int.toNat (7 - 0) + 1) 0 = .error false := hT796.symm.trans (show F_l_FnBuilding_L1b code (F_l_FnBuilding_L1 code r799) k27 = .error false by unfold F_l_FnBuilding_L1b; rw [ht916, ht818, ht805]; first | done | rfl)
                  refine p_tr (p_br (p_tr ?_))
                  refine p_tr ?_
                  have hF : F_l_FnBuilding code = false := by unfold F_l_FnBuilding; rw [hX923, ht778, hb742, hb687, hb620, hb547, hb464, hb371, ht161, ht148, hb112, ht13]; first | done | rfl
                  refine c_ret1 hE922 rfl rfl ?_
                  exact ⟨(by rw [hF]; first | done | (dsimp only; done) | rfl), hS882.ext⟩
                 ·
                  have ht924 := bn_f ht916
                  have hp925 := of_decide_eq_true ht924
                  have hE926 := hE915; rw [ht916] at hE926; clear hE915
                  refine wp_skip ?_
                  refine p_bn ?_
                  refine p_tn ?_
                  refine c_reg ?_
                  refine q_step (v := .int .i64 k27) hE926 (y_move rfl) rfl rfl rfl ?_; intro a927 hE928; clear hE926
                  refine q_step (v := .int .i64 (k27 + 1)) hE928 (y_add rfl rfl ⟨(by omega), (by omega)⟩) rfl rfl rfl ?_; intro a929 hE930; clear hE928
                  refine q_step (v := .int .i64 (k27 + 1)) hE930 (y_assign rfl) rfl rfl rfl ?_; intro a931 hE932; clear hE930
                  refine c_nil ?_
                  have hE933 := hE932.sub (L' := [(3, .int .i64 ((F_s_DrawJoinFormulas code).1)), (10, .slice b185 (((F_KindCounts ((F_s_DrawJoinFormulas code).2.1)).1).length) c186), (12, .slice b209 (((F_KindCounts ((F_s_DrawJoinFormulas code).2.2)).1).length) c210), (14, .slice b233 (((F_KindCounts ((F_JoinFormulas ((F_s_DrawJoinFormulas code).1) ((F_s_DrawJoinFormulas code).2.1) ((F_s_DrawJoinFormulas code).2.2)).1)).1).length) c234), (27, .int .i64 (k27 + 1))]) ⟨rfl, rfl, rfl, rfl, rfl, trivial⟩; clear hE932
                  refine p_tn ⟨r799, Nat.lt_succ_self _, k27 + 1, (hT796.symm.trans (show F_l_FnBuilding_L1b code (F_l_FnBuilding_L1 code r799) k27 = F_l_FnBuilding_L1 code r799 (k27 + 1) by unfold F_l_FnBuilding_L1b; rw [ht916, ht818, ht805]; first | done | rfl)).symm, (by omega), (by first | omega | (simp only [sS_len, sL_len]; omega) | (simp only [List.length_replicate, sI_len]; omega) | (simp only [List.length_append, List.length_cons, List.length_nil, sI_len, cond_true, cond_false]; omega) | (simp only [List.length_append, List.length_cons, List.length_nil, sI_len, cond_eq_ite, apply_ite List.length]; split <;> simp only [List.length_append, List.length_cons, List.length_nil, sI_len] <;> omega) | grind), (hE933.sub (L' := [(3, .int .i64 ((F_s_DrawJoinFormulas code).1)), (10, .slice b185 (((F_KindCounts ((F_s_DrawJoinFormulas code).2.1)).1).length) c186), (12, .slice b209 (((F_KindCounts ((F_s_DrawJoinFormulas code).2.2)).1).length) c210), (14, .slice b233 (((F_KindCounts ((F_JoinFormulas ((F_s_DrawJoinFormulas code).1) ((F_s_DrawJoinFormulas code).2.1) ((F_s_DrawJoinFormulas code).2.2)).1)).1).length) c234), (27, .int .i64 (k27 + 1))]) ⟨rfl, rfl, rfl, rfl, rfl, trivial⟩), (St.pick (Γ' := [.own 2 1 b233 (((F_KindCounts ((F_JoinFormulas ((F_s_DrawJoinFormulas code).1) ((F_s_DrawJoinFormulas code).2.1) ((F_s_DrawJoinFormulas code).2.2)).1)).1).length) c234 ((F_KindCounts ((F_JoinFormulas ((F_s_DrawJoinFormulas code).1) ((F_s_DrawJoinFormulas code).2.1) ((F_s_DrawJoinFormulas code).2.2)).1)).1), .own 2 1 b209 (((F_KindCounts ((F_s_DrawJoinFormulas code).2.2)).1).length) c210 ((F_KindCounts ((F_s_DrawJoinFormulas code).2.2)).1), .own 2 1 b185 (((F_KindCounts ((F_s_DrawJoinFormulas code).2.1)).1).length) c186 ((F_KindCounts ((F_s_DrawJoinFormulas code).2.1)).1), .own 94 2 b89 (((F_s_JoinFormulas ((F_s_DrawJoinFormulas code).1) ((F_s_DrawJoinFormulas code).2.1) ((F_s_DrawJoinFormulas code).2.2)).1).length / 2 : Nat) c90 ((F_s_JoinFormulas ((F_s_DrawJoinFormulas code).1) ((F_s_DrawJoinFormulas code).2.1) ((F_s_DrawJoinFormulas code).2.2)).1), .own 94 2 b61 (((F_JoinFormulas ((F_s_DrawJoinFormulas code).1) ((F_s_DrawJoinFormulas code).2.1) ((F_s_DrawJoinFormulas code).2.2)).1).length / 2 : Nat) c62 ((F_JoinFormulas ((F_s_DrawJoinFormulas code).1) ((F_s_DrawJoinFormulas code).2.1) ((F_s_DrawJoinFormulas code).2.2)).1), .own 94 2 b27 (((F_s_DrawJoinFormulas code).2.1).length / 2 : Nat) c28 ((F_s_DrawJoinFormulas code).2.1), .own 94 2 b29 (((F_s_DrawJoinFormulas code).2.2).length / 2 : Nat) c30 ((F_s_DrawJoinFormulas code).2.2)]) hS882 [0, 1, 2, 3, 4, 5, 6] (by decide) rfl)⟩
               ·
                have hp934 := of_decide_eq_false ht805
                have hE935 := hE804; rw [ht805] at hE935; clear hE804
                refine wp_exit ?_
                refine p_te ?_
                have hX936 : F_l_FnBuilding_L1 code (Int.toNat (7 - 0) + 1) 0 = .ok k27 := hT796.symm.trans (show F_l_FnBuilding_L1b code (F_l_FnBuilding_L1 code r799) k27 = .ok k27 by unfold F_l_FnBuilding_L1b; rw [ht805]; first | done | rfl)
                refine p_te (p_be (p_tn ?_))
                exact ⟨(by rw [hX936]; rfl), (by rw [hX936]; exact (show 0 ≤ k27 from (by first | omega | (simp only [sS_len, sL_len]; omega) | (simp only [List.length_replicate, sI_len]; omega) | (simp only [List.length_append, List.length_cons, List.length_nil, sI_len, cond_true, cond_false]; omega) | (simp only [List.length_append, List.length_cons, List.length_nil, sI_len, cond_eq_ite, apply_ite List.length]; split <;> simp only [List.length_append, List.length_cons, List.length_nil, sI_len] <;> omega) | grind))), (by rw [hX936]; exact (hE935.sub (L' := [(3, .int .i64 ((F_s_DrawJoinFormulas code).1)), (10, .slice b185 (((F_KindCounts ((F_s_DrawJoinFormulas code).2.1)).1).length) c186), (12, .slice b209 (((F_KindCounts ((F_s_DrawJoinFormulas code).2.2)).1).length) c210), (14, .slice b233 (((F_KindCounts ((F_JoinFormulas ((F_s_DrawJoinFormulas code).1) ((F_s_DrawJoinFormulas code).2.1) ((F_s_DrawJoinFormulas code).2.2)).1)).1).length) c234), (27, .int .i64 k27)]) ⟨rfl, rfl, rfl, rfl, rfl, trivial⟩)), (St.pick (Γ' := [.own 2 1 b233 (((F_KindCounts ((F_JoinFormulas ((F_s_DrawJoinFormulas code).1) ((F_s_DrawJoinFormulas code).2.1) ((F_s_DrawJoinFormulas code).2.2)).1)).1).length) c234 ((F_KindCounts ((F_JoinFormulas ((F_s_DrawJoinFormulas code).1) ((F_s_DrawJoinFormulas code).2.1) ((F_s_DrawJoinFormulas code).2.2)).1)).1), .own 2 1 b209 (((F_KindCounts ((F_s_DrawJoinFormulas code).2.2)).1).length) c210 ((F_KindCounts ((F_s_DrawJoinFormulas code).2.2)).1), .own 2 1 b185 (((F_KindCounts ((F_s_DrawJoinFormulas code).2.1)).1).length) c186 ((F_KindCounts ((F_s_DrawJoinFormulas code).2.1)).1), .own 94 2 b89 (((F_s_JoinFormulas ((F_s_DrawJoinFormulas code).1) ((F_s_DrawJoinFormulas code).2.1) ((F_s_DrawJoinFormulas code).2.2)).1).length / 2 : Nat) c90 ((F_s_JoinFormulas ((F_s_DrawJoinFormulas code).1) ((F_s_DrawJoinFormulas code).2.1) ((F_s_DrawJoinFormulas code).2.2)).1), .own 94 2 b61 (((F_JoinFormulas ((F_s_DrawJoinFormulas code).1) ((F_s_DrawJoinFormulas code).2.1) ((F_s_DrawJoinFormulas code).2.2)).1).length / 2 : Nat) c62 ((F_JoinFormulas ((F_s_DrawJoinFormulas code).1) ((F_s_DrawJoinFormulas code).2.1) ((F_s_DrawJoinFormulas code).2.2)).1), .own 94 2 b27 (((F_s_DrawJoinFormulas code).2.1).length / 2 : Nat) c28 ((F_s_DrawJoinFormulas code).2.1), .own 94 2 b29 (((F_s_DrawJoinFormulas code).2.2).length / 2 : Nat) c30 ((F_s_DrawJoinFormulas code).2.2)]) hS795 [0, 1, 2, 3, 4, 5, 6] (by decide) rfl)⟩
             ·
              rintro a937 w938 ⟨hO941, hi942, hE939, hS940⟩; clear hE790 hS323
              refine p_tn ?_
              refine c_seq ?_
              refine c_reg ?_
              refine q_step (v := .bool true) hE939 (y_assign rfl) rfl rfl rfl ?_; intro a943 hE944; clear hE939
              refine c_nil ?_
              have hE945 := hE944.sub (L' := [(2, .bool true)]) ⟨rfl, trivial⟩; clear hE944
              refine p_tn ?_
              refine wp_ret ?_
              have hF : F_l_FnBuilding code = true := by unfold F_l_FnBuilding; rw [hO941, ht778, hb742, hb687, hb620, hb547, hb464, hb371, ht161, ht148, hb112, ht13]; first | done | rfl
              refine c_ret1 hE945 rfl rfl ?_
              exact ⟨(by rw [hF]; first | done | (dsimp only; done) | rfl), hS940.ext⟩
theorem same9_self (ap : List Int) : F_l_sameNodes9 ap ap = true := by
  unfold F_l_sameNodes9
  rw [allE (F_l_sameNodes9_L1 ap ap) false ((ap.length / 2 : Nat) : Int) (fun i5 => (!(decide (gS 2 0 ap i5 = gS 2 0 ap i5) && decide (gS 2 1 ap i5 = gS 2 1 ap i5)))) (by omega) (fun _ _ _ _ => rfl), isOk_bif]
  rw [show (List.range ((ap.length / 2 : Nat) : Int).toNat).all (fun (j : Nat) => !(!(decide (gS 2 0 ap (j : Int) = gS 2 0 ap (j : Int)) && decide (gS 2 1 ap (j : Int) = gS 2 1 ap (j : Int))))) = true by
    rw [List.all_eq_true]; intro j _; simp]
  simp
theorem JoinFormulas_ok {k : Int} {ap bp : List Int} (h : (F_JoinFormulas k ap bp).2 = 0) : F_l02Is ap = true ∧ F_l02Is bp = true ∧ F_partsOf k = 2 ∧ ((F_l02Pair k ap bp).length / 2 : Nat) ≤ 40 ∧ (F_JoinFormulas k ap bp).1 = F_l02Pair k ap bp := by
  unfold F_JoinFormulas at h ⊢
  rw [areFormulas2, join_pair] at h ⊢
  cases h1 : F_l02Is ap
  · rw [h1] at h; exact absurd (show (1 : Int) = 0 from h) (by decide)
  · cases h2 : F_l02Is bp
    · rw [h1, h2] at h; exact absurd (show (1 : Int) = 0 from h) (by decide)
    · rw [h1, h2] at h
      by_cases h3 : F_partsOf k = 2
      · rw [decide_eq_true h3] at h ⊢
        by_cases h4 : 40 < (((F_l02Pair k ap bp).length / 2 : Nat) : Int)
        · rw [decide_eq_true h4] at h; exact absurd (show (3 : Int) = 0 from h) (by decide)
        · rw [decide_eq_false h4]
          exact ⟨rfl, rfl, h3, by omega, rfl⟩
      · rw [decide_eq_false h3] at h; exact absurd (show (2 : Int) = 0 from h) (by decide)
theorem FnBuilding_true (code : List Int) (hg : ∀ m : Int, 0 ≤ gI code m) : F_l_FnBuilding code = true := by
  have hd := DrawJoin_len hg
  have hL : ∀ (P : Prop), True := fun _ => trivial
  unfold F_l_FnBuilding
  rcases Bool.eq_false_or_eq_true (F_l_big code) with hb | hb
  · rw [hb]; rfl
  rw [hb, cond_false, ← JoinFormulas_eq, decide_eq_true rfl, Bool.not_true, cond_false, same9_self, Bool.not_true, cond_false]
  by_cases h0 : (F_JoinFormulas (F_s_DrawJoinFormulas code).1 (F_s_DrawJoinFormulas code).2.1 (F_s_DrawJoinFormulas code).2.2).2 = 0
  · obtain ⟨i1, i2, i3, i4, i5⟩ := JoinFormulas_ok h0
    rw [decide_eq_true h0, Bool.not_true, cond_false]
    have hloop : F_l_FnBuilding_L1 code (Int.toNat (7 - 0) + 1) 0 = bif (List.range (7 : Int).toNat).all (fun (j : Nat) => !(bif (decide (((j : Nat) : Int) = ((F_s_DrawJoinFormulas code).1))) then (!decide ((gI ((F_KindCounts ((F_JoinFormulas ((F_s_DrawJoinFormulas code).1) ((F_s_DrawJoinFormulas code).2.1) ((F_s_DrawJoinFormulas code).2.2)).1)).1) (j : Int)) = (((gI ((F_KindCounts ((F_s_DrawJoinFormulas code).2.1)).1) (j : Int)) + (gI ((F_KindCounts ((F_s_DrawJoinFormulas code).2.2)).1) (j : Int))) + 1))) else (!decide ((gI ((F_KindCounts ((F_JoinFormulas ((F_s_DrawJoinFormulas code).1) ((F_s_DrawJoinFormulas code).2.1) ((F_s_DrawJoinFormulas code).2.2)).1)).1) (j : Int)) = (((gI ((F_KindCounts ((F_s_DrawJoinFormulas code).2.1)).1) (j : Int)) + (gI ((F_KindCounts ((F_s_DrawJoinFormulas code).2.2)).1) (j : Int))) + 0))))) then .ok 7 else .error false := by
      rw [allE (F_l_FnBuilding_L1 code) false 7 (fun k27 => (bif (decide (k27 = ((F_s_DrawJoinFormulas code).1))) then (!decide ((gI ((F_KindCounts ((F_JoinFormulas ((F_s_DrawJoinFormulas code).1) ((F_s_DrawJoinFormulas code).2.1) ((F_s_DrawJoinFormulas code).2.2)).1)).1) k27) = (((gI ((F_KindCounts ((F_s_DrawJoinFormulas code).2.1)).1) k27) + (gI ((F_KindCounts ((F_s_DrawJoinFormulas code).2.2)).1) k27)) + 1))) else (!decide ((gI ((F_KindCounts ((F_JoinFormulas ((F_s_DrawJoinFormulas code).1) ((F_s_DrawJoinFormulas code).2.1) ((F_s_DrawJoinFormulas code).2.2)).1)).1) k27) = (((gI ((F_KindCounts ((F_s_DrawJoinFormulas code).2.1)).1) k27) + (gI ((F_KindCounts ((F_s_DrawJoinFormulas code).2.2)).1) k27)) + 0))))) (by omega) (fun r i _ _ => by
        show F_l_FnBuilding_L1b code _ i = _
        unfold F_l_FnBuilding_L1b
        cases decide (i = (F_s_DrawJoinFormulas code).1) <;> rfl)]
    rw [hloop]
    rw [i5]
    generalize (F_s_DrawJoinFormulas code).1 = k at *
    generalize (F_s_DrawJoinFormulas code).2.1 = a at *
    generalize (F_s_DrawJoinFormulas code).2.2 = b at *
    obtain ⟨t1, oa, rfl⟩ := IsFm.of (by omega) i1
    obtain ⟨t2, ob, rfl⟩ := IsFm.of (by omega) i2
    have hk : k = 2 ∨ k = 3 ∨ k = 4 := by
      by_cases q2 : k = 2
      · exact .inl q2
      · by_cases q3 : k = 3
        · exact .inr (.inl q3)
        · by_cases q4 : k = 4
          · exact .inr (.inr q4)
          · exfalso
            revert i3
            unfold F_partsOf
            rw [decide_eq_false q2, decide_eq_false q3, decide_eq_false q4]
            cases decide (k = 5) <;> cases decide (k = 6) <;> decide
    have hm : F_isModal k = false := by
      unfold F_isModal
      rw [decide_eq_false (by omega), decide_eq_false (by omega)]; rfl
    have hc : F_l02Pair k t1.code t2.code = (Fm.bin k 0 t1 t2).code := rfl
    have ot : (Fm.bin k 0 t1 t2).Ok := ⟨⟨i3, ⟨by omega, by omega⟩, ⟨by omega, by omega⟩, .inr rfl⟩, oa, ob⟩
    rw [hc] at i4 ⊢
    have hsz := (Fm.bin k 0 t1 t2).code_half
    have fa : F_isFormula t1.code = true := by rw [isFormula_eq]; exact i1
    have fb : F_isFormula t2.code = true := by rw [isFormula_eq]; exact i2
    have fc : F_isFormula (Fm.bin k 0 t1 t2).code = true := isFormula_tree ot (by omega)
    obtain ⟨a1, a2, a3⟩ := KindCounts_val t1.code_ev fa
    obtain ⟨b1, b2, b3⟩ := KindCounts_val t2.code_ev fb
    obtain ⟨c1, c2, c3⟩ := KindCounts_val (Fm.bin k 0 t1 t2).code_ev fc
    have hpa := t1.size_pos
    have hpb := t2.size_pos
    have hs : (Fm.bin k 0 t1 t2).size = t1.size + t2.size + 1 := rfl
    have hpe : F_PartEnd (Fm.bin k 0 t1 t2).code 1 = (1 + (t1.size : Int), 0) := by
      unfold F_PartEnd
      rw [fc, (partEnd_bin ot).1, hsz, hs, show F_inRange 1 0 (((t1.size + t2.size + 1 : Nat) : Int) - 1) = true by
        unfold F_inRange
        rw [decide_eq_true (by omega), decide_eq_true (by omega)]; rfl]
      rfl
    have hdp := Fm.dep_pos t1
    have hdq := Fm.dep_pos t2
    rw [a1, b1, c1, a2, b2, c2, hpe, DepthsOf_tree oa fa, DepthsOf_tree ob fb, DepthsOf_tree ot fc, t1.code_half]
    have hdep : (Fm.bin k 0 t1 t2).dep = (max (max 0 (t1.dep.1 + 1)) (t2.dep.1 + 1), max (max 0 t1.dep.2) t2.dep.2) := by rw [Fm.dep, hm, cond_false]
    rw [hdep]
    have hall : (List.range (7 : Int).toNat).all (fun (j : Nat) => !(bif (decide (((j : Nat) : Int) = k)) then (!decide ((gI ((F_KindCounts (Fm.bin k 0 t1 t2).code).1) (j : Int)) = (((gI ((F_KindCounts t1.code).1) (j : Int)) + (gI ((F_KindCounts t2.code).1) (j : Int))) + 1))) else (!decide ((gI ((F_KindCounts (Fm.bin k 0 t1 t2).code).1) (j : Int)) = (((gI ((F_KindCounts t1.code).1) (j : Int)) + (gI ((F_KindCounts t2.code).1) (j : Int))) + 0))))) = true := by
      rw [List.all_eq_true]
      intro j _
      rw [a3 _ (by omega), b3 _ (by omega), c3 _ (by omega)]
      have e : cntK (j : Int) (Fm.bin k 0 t1 t2).code = (if k = (j : Int) then 1 else 0) + (cntK (j : Int) t1.code + cntK (j : Int) t2.code) := by
        show (if k = (j : Int) then 1 else 0) + cntK (j : Int) (t1.code ++ t2.code) = _
        rw [cntK_tree]
      rw [e]
      by_cases hj : (j : Int) = k
      · rw [decide_eq_true hj, cond_true, if_pos hj.symm, decide_eq_true (by omega)]; rfl
      · rw [decide_eq_false hj, cond_false, if_neg (fun h => hj h.symm), decide_eq_true (by omega)]; rfl
    rw [hall]
    dsimp only
    rw [decide_eq_true (show (0 : Int) + 0 + 0 + 0 + 0 + 0 + 0 = 0 from rfl), decide_eq_true (show ((7 : Nat) : Int) = 7 from rfl), decide_eq_true (show (1 : Int) + (t1.size : Int) = (t1.size : Int) + 1 by omega), decide_eq_true (show max (max 0 (t1.dep.1 + 1)) (t2.dep.1 + 1) = max t1.dep.1 t2.dep.1 + 1 by omega), decide_eq_true (show max (max 0 t1.dep.2) t2.dep.2 = max t1.dep.2 t2.dep.2 by omega)]
    rfl
  · rw [decide_eq_false h0, Bool.not_false, cond_true]
    have hz : (F_JoinFormulas (F_s_DrawJoinFormulas code).1 (F_s_DrawJoinFormulas code).2.1 (F_s_DrawJoinFormulas code).2.2).1 = [] := by
      revert h0
      unfold F_JoinFormulas
      cases F_areFormulas [(F_s_DrawJoinFormulas code).2.1, (F_s_DrawJoinFormulas code).2.2]
      · intro _; rfl
      · cases decide (F_partsOf (F_s_DrawJoinFormulas code).1 = 2)
        · intro _; rfl
        · cases decide (40 < (((F_join (F_s_DrawJoinFormulas code).1 (F_s_DrawJoinFormulas code).2.1 (F_s_DrawJoinFormulas code).2.2).length / 2 : Nat) : Int))
          · intro h; exact absurd rfl h
          · intro _; rfl
    rw [hz]; rfl
end Go.Proofs.Ytkilkfhjfobcdaa
