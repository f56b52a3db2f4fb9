/- GLMD: models and contracts, printed by wip/gen/gen.py -/
import Derived.Test.YtlbonhloeefnmaaKMDLoud
import Derived.Test.YtlbonhloeefnmaaKMDGDA
import Derived.Test.YtlbonhloeefnmaaKMDGLK
import Derived.Test.YtlbonhloeefnmaaKMDGMD
set_option linter.unusedVariables false
set_option linter.unusedSimpArgs false
namespace Go.Proofs.Ytlbonhloeefnmaa
open Go.RowKit
def F_l_FnModalDuality (code : List Int) : Bool :=
  bif (F_l_big code) then true else (bif (!decide (((F_FrameOfAlgebra ((F_s_DrawFrameOfAlgebra code).1) ((F_s_DrawFrameOfAlgebra code).2)).2) = ((F_s_FrameOfAlgebra ((F_s_DrawFrameOfAlgebra code).1) ((F_s_DrawFrameOfAlgebra code).2)).2))) then false else (bif (!(F_l_likeFrame5 (((F_FrameOfAlgebra ((F_s_DrawFrameOfAlgebra code).1) ((F_s_DrawFrameOfAlgebra code).2)).1).1) (((F_FrameOfAlgebra ((F_s_DrawFrameOfAlgebra code).1) ((F_s_DrawFrameOfAlgebra code).2)).1).2) (((F_s_FrameOfAlgebra ((F_s_DrawFrameOfAlgebra code).1) ((F_s_DrawFrameOfAlgebra code).2)).1).1) (((F_s_FrameOfAlgebra ((F_s_DrawFrameOfAlgebra code).1) ((F_s_DrawFrameOfAlgebra code).2)).1).2))) then false else (bif (decide (((F_FrameOfAlgebra ((F_s_DrawFrameOfAlgebra code).1) ((F_s_DrawFrameOfAlgebra code).2)).2) = 0)) then (bif (!decide (((F_AlgebraOfFrame (((F_s_FrameOfAlgebra ((F_s_DrawFrameOfAlgebra code).1) ((F_s_DrawFrameOfAlgebra code).2)).1).1) (((F_s_FrameOfAlgebra ((F_s_DrawFrameOfAlgebra code).1) ((F_s_DrawFrameOfAlgebra code).2)).1).2)).2) = 0)) then false else (bif (!(F_l_likeAlgebra5 (((F_AlgebraOfFrame (((F_s_FrameOfAlgebra ((F_s_DrawFrameOfAlgebra code).1) ((F_s_DrawFrameOfAlgebra code).2)).1).1) (((F_s_FrameOfAlgebra ((F_s_DrawFrameOfAlgebra code).1) ((F_s_DrawFrameOfAlgebra code).2)).1).2)).1).1) (((F_AlgebraOfFrame (((F_s_FrameOfAlgebra ((F_s_DrawFrameOfAlgebra code).1) ((F_s_DrawFrameOfAlgebra code).2)).1).1) (((F_s_FrameOfAlgebra ((F_s_DrawFrameOfAlgebra code).1) ((F_s_DrawFrameOfAlgebra code).2)).1).2)).1).2) ((F_s_DrawFrameOfAlgebra code).1) ((F_s_DrawFrameOfAlgebra code).2))) then false else (bif (!(F_IsModalAlgebra (((F_AlgebraOfFrame (((F_s_FrameOfAlgebra ((F_s_DrawFrameOfAlgebra code).1) ((F_s_DrawFrameOfAlgebra code).2)).1).1) (((F_s_FrameOfAlgebra ((F_s_DrawFrameOfAlgebra code).1) ((F_s_DrawFrameOfAlgebra code).2)).1).2)).1).1) (((F_AlgebraOfFrame (((F_s_FrameOfAlgebra ((F_s_DrawFrameOfAlgebra code).1) ((F_s_DrawFrameOfAlgebra code).2)).1).1) (((F_s_FrameOfAlgebra ((F_s_DrawFrameOfAlgebra code).1) ((F_s_DrawFrameOfAlgebra code).2)).1).2)).1).2))) then false else (bif (!decide (((F_AlgebraOfFrame ((F_s_DrawAlgebraOfFrame code).1) ((F_s_DrawAlgebraOfFrame code).2)).2) = ((F_s_AlgebraOfFrame ((F_s_DrawAlgebraOfFrame code).1) ((F_s_DrawAlgebraOfFrame code).2)).2))) then false else (bif (!(F_l_likeAlgebra5 (((F_AlgebraOfFrame ((F_s_DrawAlgebraOfFrame code).1) ((F_s_DrawAlgebraOfFrame code).2)).1).1) (((F_AlgebraOfFrame ((F_s_DrawAlgebraOfFrame code).1) ((F_s_DrawAlgebraOfFrame code).2)).1).2) (((F_s_AlgebraOfFrame ((F_s_DrawAlgebraOfFrame code).1) ((F_s_DrawAlgebraOfFrame code).2)).1).1) (((F_s_AlgebraOfFrame ((F_s_DrawAlgebraOfFrame code).1) ((F_s_DrawAlgebraOfFrame code).2)).1).2))) then false else (bif (!decide (((F_AlgebraOfFrame ((F_s_DrawAlgebraOfFrame code).1) ((F_s_DrawAlgebraOfFrame code).2)).2) = 0)) then true else (bif (decide (((F_FrameOfAlgebra (((F_s_AlgebraOfFrame ((F_s_DrawAlgebraOfFrame code).1) ((F_s_DrawAlgebraOfFrame code).2)).1).1) (((F_s_AlgebraOfFrame ((F_s_DrawAlgebraOfFrame code).1) ((F_s_DrawAlgebraOfFrame code).2)).1).2)).2) = 0)) then (F_l_likeFrame5 (((F_FrameOfAlgebra (((F_s_AlgebraOfFrame ((F_s_DrawAlgebraOfFrame code).1) ((F_s_DrawAlgebraOfFrame code).2)).1).1) (((F_s_AlgebraOfFrame ((F_s_DrawAlgebraOfFrame code).1) ((F_s_DrawAlgebraOfFrame code).2)).1).2)).1).1) (((F_FrameOfAlgebra (((F_s_AlgebraOfFrame ((F_s_DrawAlgebraOfFrame code).1) ((F_s_DrawAlgebraOfFrame code).2)).1).1) (((F_s_AlgebraOfFrame ((F_s_DrawAlgebraOfFrame code).1) ((F_s_DrawAlgebraOfFrame code).2)).1).2)).1).2) ((F_s_DrawAlgebraOfFrame code).1) ((F_s_DrawAlgebraOfFrame code).2)) else false))))))) else (bif (!decide (((F_AlgebraOfFrame ((F_s_DrawAlgebraOfFrame code).1) ((F_s_DrawAlgebraOfFrame code).2)).2) = ((F_s_AlgebraOfFrame ((F_s_DrawAlgebraOfFrame code).1) ((F_s_DrawAlgebraOfFrame code).2)).2))) then false else (bif (!(F_l_likeAlgebra5 (((F_AlgebraOfFrame ((F_s_DrawAlgebraOfFrame code).1) ((F_s_DrawAlgebraOfFrame code).2)).1).1) (((F_AlgebraOfFrame ((F_s_DrawAlgebraOfFrame code).1) ((F_s_DrawAlgebraOfFrame code).2)).1).2) (((F_s_AlgebraOfFrame ((F_s_DrawAlgebraOfFrame code).1) ((F_s_DrawAlgebraOfFrame code).2)).1).1) (((F_s_AlgebraOfFrame ((F_s_DrawAlgebraOfFrame code).1) ((F_s_DrawAlgebraOfFrame code).2)).1).2))) then false else (bif (!decide (((F_AlgebraOfFrame ((F_s_DrawAlgebraOfFrame code).1) ((F_s_DrawAlgebraOfFrame code).2)).2) = 0)) then true else (bif (decide (((F_FrameOfAlgebra (((F_s_AlgebraOfFrame ((F_s_DrawAlgebraOfFrame code).1) ((F_s_DrawAlgebraOfFrame code).2)).1).1) (((F_s_AlgebraOfFrame ((F_s_DrawAlgebraOfFrame code).1) ((F_s_DrawAlgebraOfFrame code).2)).1).2)).2) = 0)) then (F_l_likeFrame5 (((F_FrameOfAlgebra (((F_s_AlgebraOfFrame ((F_s_DrawAlgebraOfFrame code).1) ((F_s_DrawAlgebraOfFrame code).2)).1).1) (((F_s_AlgebraOfFrame ((F_s_DrawAlgebraOfFrame code).1) ((F_s_DrawAlgebraOfFrame code).2)).1).2)).1).1) (((F_FrameOfAlgebra (((F_s_AlgebraOfFrame ((F_s_DrawAlgebraOfFrame code).1) ((F_s_DrawAlgebraOfFrame code).2)).1).1) (((F_s_AlgebraOfFrame ((F_s_DrawAlgebraOfFrame code).1) ((F_s_DrawAlgebraOfFrame code).2)).1).2)).1).2) ((F_s_DrawAlgebraOfFrame code).1) ((F_s_DrawAlgebraOfFrame code).2)) else false)))))))
set_option maxRecDepth 100000 in
theorem c_l_FnModalDuality (codeA : Option Addr) (codeN codeC : Nat) (code : List Int) (w : World) (codeR : RdB w codeA codeN codeC code) :
    Calls Try.prog 13 #[.slice codeA code.length codeC] w (Ret fun v w' => v = .bool (F_l_FnModalDuality code) ∧ Ext w w') := by
  obtain rfl : codeN = code.length := codeR.len
  have codeLe := codeR.le
  have hS := St.nil w
  refine enter (args := [.slice codeA code.length codeC]) Try.func13 rfl rfl ?_
  rw [Try.ntmps13]; intro a hE
  have hE := hE.sub (L' := [(0, .slice codeA code.length codeC)]) ⟨rfl, trivial⟩
  refine c_seq ?_
  refine c_reg ?_
  refine q_step (v := .bool false) hE (y_assign rfl) rfl rfl rfl ?_; intro a1 hE2; clear hE
  refine c_nil ?_
  have hE3 := hE2.sub (L' := [(0, .slice codeA code.length codeC)]) ⟨rfl, trivial⟩; clear hE2
  refine p_tn ?_
  refine c_seq ?_
  refine c_seq ?_
  refine c_reg ?_
  refine q_step (v := .slice codeA code.length codeC) hE3 (y_move rfl) rfl rfl rfl ?_; intro a4 hE5; clear hE3
  refine l_step hE5 rfl (l_call (f := 49) (argv := [.slice codeA code.length codeC]) hE5 (fun _ => cf_l_big _ _) rfl rfl (c_l_big codeA code.length codeC code w (codeR.ext hS.ext)) ?_)
  rintro _ _ ⟨rfl, rfl⟩ a8 hE9; clear hE5
  refine c_nil ?_
  have hE12 := hE9.sub (L' := [(0, .slice codeA code.length codeC), (18, .bool (F_l_big code))]) ⟨rfl, rfl, trivial⟩; clear hE9
  refine p_tn ?_
  refine c_cond hE12 rfl (fun ht13 => ?_) (fun ht13 => ?_)
  ·
   have hE14 := hE12; rw [ht13] at hE14; clear hE12
   refine c_seq ?_
   refine c_reg ?_
   refine q_step (v := .bool true) hE14 (y_assign rfl) rfl rfl rfl ?_; intro a15 hE16; clear hE14
   refine c_nil ?_
   have hE17 := hE16.sub (L' := [(2, .bool true)]) ⟨rfl, trivial⟩; clear hE16
   refine p_tn ?_
   refine wp_ret ?_
   refine p_tr ?_
   have hF : F_l_FnModalDuality code = true := by unfold F_l_FnModalDuality; rw [ht13]; first | done | rfl
   refine c_ret1 hE17 rfl rfl ?_
   exact ⟨(by rw [hF]; first | done | (dsimp only; done) | rfl), hS.ext⟩
  ·
   have hE18 := hE12; rw [ht13] at hE18; clear hE12
   refine wp_skip ?_
   refine p_tn ?_
   refine c_seq ?_
   refine c_reg ?_
   refine q_step (v := .slice codeA code.length codeC) hE18 (y_move rfl) rfl rfl rfl ?_; intro a19 hE20; clear hE18
   refine l_step hE20 rfl (l_call (f := 67) (argv := [.slice codeA code.length codeC]) hE20 (fun _ => cf_s_DrawFrameOfAlgebra _ _) rfl rfl (c_s_DrawFrameOfAlgebra codeA code.length codeC code w (codeR.ext hS.ext)) ?_)
   rintro _ w22 ⟨b27, c28, rfl, ho29, he26⟩ a23 hE24; clear hE20
   have hS25 := St.own hS he26 ho29; clear hS
   refine l_step hE24 rfl (l_alloc (z := .agg #[.int .i64 0, .slice none 0 0]) (cs := #[.int .i64 0, .slice none 0 0]) hS25 hE24 (fun _ => by kernel_rfl) rfl rfl ?_)
   intro b30 w31 hS34 he35 a32 hE33; clear hS25 hE24
   refine l_step hE33 rfl (l_storeS (k := 0) (cs' := #[.int .i64 ((F_s_DrawFrameOfAlgebra code).1), .slice b27 (((F_s_DrawFrameOfAlgebra code).2).length) c28]) hS34 hE33 (by kernel_rfl) rfl rfl (by kernel_rfl) rfl rfl ?_)
   intro w37 hS40 a38 hE39; clear hS34 hE33
   refine c_nil ?_
   have hE42 := hE39.sub (L' := [(0, .slice codeA code.length codeC), (3, .pointer (some ⟨b30, 0, none⟩))]) ⟨rfl, rfl, trivial⟩; clear hE39
   refine p_tn ?_
   refine c_seq ?_
   refine c_reg ?_
   refine q_step (v := .agg #[.int .i64 ((F_s_DrawFrameOfAlgebra code).1), .slice b27 (((F_s_DrawFrameOfAlgebra code).2).length) c28]) hE42 (y_loadS Try.underlying79 rfl (by kernel_rfl) rfl (St.row (i := 0) hS40 rfl)) rfl rfl rfl ?_; intro a43 hE44; clear hE42
   refine l_step hE44 rfl (l_call (f := 68) (argv := [.agg #[.int .i64 ((F_s_DrawFrameOfAlgebra code).1), .slice b27 (((F_s_DrawFrameOfAlgebra code).2).length) c28]]) hE44 (fun _ => cf_FrameOfAlgebra _ _) rfl rfl (c_FrameOfAlgebra ((F_s_DrawFrameOfAlgebra code).1) b27 (((F_s_DrawFrameOfAlgebra code).2).length) c28 ((F_s_DrawFrameOfAlgebra code).2) w37 (St.rdO (i := 1) hS40 rfl)) ?_)
   rintro _ w46 ⟨b51, c52, rfl, ho53, he50⟩ a47 hE48; clear hE44
   have hf54 := FrameOfAlgebra_len ((F_s_DrawFrameOfAlgebra code).1) ((F_s_DrawFrameOfAlgebra code).2)
   have hS49 := St.own hS40 he50 ho53; clear hS40
   refine q_step (v := .tuple #[.agg #[.int .i64 (((F_FrameOfAlgebra ((F_s_DrawFrameOfAlgebra code).1) ((F_s_DrawFrameOfAlgebra code).2)).1).1), .slice b51 ((((F_FrameOfAlgebra ((F_s_DrawFrameOfAlgebra code).1) ((F_s_DrawFrameOfAlgebra code).2)).1).2).length) c52], .int .i64 ((F_FrameOfAlgebra ((F_s_DrawFrameOfAlgebra code).1) ((F_s_DrawFrameOfAlgebra code).2)).2)]) hE48 (y_move rfl) rfl rfl rfl ?_; intro a55 hE56; clear hE48
   refine q_step (v := .agg #[.int .i64 (((F_FrameOfAlgebra ((F_s_DrawFrameOfAlgebra code).1) ((F_s_DrawFrameOfAlgebra code).2)).1).1), .slice b51 ((((F_FrameOfAlgebra ((F_s_DrawFrameOfAlgebra code).1) ((F_s_DrawFrameOfAlgebra code).2)).1).2).length) c52]) hE56 (y_extract rfl rfl) rfl rfl rfl ?_; intro a57 hE58; clear hE56
   refine q_step (v := .int .i64 ((F_FrameOfAlgebra ((F_s_DrawFrameOfAlgebra code).1) ((F_s_DrawFrameOfAlgebra code).2)).2)) hE58 (y_extract rfl rfl) rfl rfl rfl ?_; intro a59 hE60; clear hE58
   refine l_step hE60 rfl (l_alloc (z := .agg #[.int .i64 0, .slice none 0 0]) (cs := #[.int .i64 0, .slice none 0 0]) hS49 hE60 (fun _ => by kernel_rfl) rfl rfl ?_)
   intro b61 w62 hS65 he66 a63 hE64; clear hS49 hE60
   refine l_step hE64 rfl (l_storeS (k := 0) (cs' := #[.int .i64 (((F_FrameOfAlgebra ((F_s_DrawFrameOfAlgebra code).1) ((F_s_DrawFrameOfAlgebra code).2)).1).1), .slice b51 ((((F_FrameOfAlgebra ((F_s_DrawFrameOfAlgebra code).1) ((F_s_DrawFrameOfAlgebra code).2)).1).2).length) c52]) hS65 hE64 (by kernel_rfl) rfl rfl (by kernel_rfl) rfl rfl ?_)
   intro w68 hS71 a69 hE70; clear hS65 hE64
   refine q_step (v := .int .i64 ((F_FrameOfAlgebra ((F_s_DrawFrameOfAlgebra code).1) ((F_s_DrawFrameOfAlgebra code).2)).2)) hE70 (y_assign rfl) rfl rfl rfl ?_; intro a73 hE74; clear hE70
   refine c_nil ?_
   have hE75 := hE74.sub (L' := [(0, .slice codeA code.length codeC), (3, .pointer (some ⟨b30, 0, none⟩)), (4, .pointer (some ⟨b61, 0, none⟩)), (5, .int .i64 ((F_FrameOfAlgebra ((F_s_DrawFrameOfAlgebra code).1) ((F_s_DrawFrameOfAlgebra code).2)).2))]) ⟨rfl, rfl, rfl, rfl, trivial⟩; clear hE74
   refine p_tn ?_
   refine c_seq ?_
   refine c_reg ?_
   refine q_step (v := .agg #[.int .i64 ((F_s_DrawFrameOfAlgebra code).1), .slice b27 (((F_s_DrawFrameOfAlgebra code).2).length) c28]) hE75 (y_loadS Try.underlying79 rfl (by kernel_rfl) rfl (St.row (i := 2) hS71 rfl)) rfl rfl rfl ?_; intro a76 hE77; clear hE75
   refine l_step hE77 rfl (l_call (f := 69) (argv := [.agg #[.int .i64 ((F_s_DrawFrameOfAlgebra code).1), .slice b27 (((F_s_DrawFrameOfAlgebra code).2).length) c28]]) hE77 (fun _ => cf_s_FrameOfAlgebra _ _) rfl rfl (c_s_FrameOfAlgebra ((F_s_DrawFrameOfAlgebra code).1) b27 (((F_s_DrawFrameOfAlgebra code).2).length) c28 ((F_s_DrawFrameOfAlgebra code).2) w68 (St.rdO (i := 3) hS71 rfl)) ?_)
   rintro _ w79 ⟨b84, c85, rfl, ho86, he83⟩ a80 hE81; clear hE77
   have hS82 := St.own hS71 he83 ho86; clear hS71
   refine q_step (v := .tuple #[.agg #[.int .i64 (((F_s_FrameOfAlgebra ((F_s_DrawFrameOfAlgebra code).1) ((F_s_DrawFrameOfAlgebra code).2)).1).1), .slice b84 ((((F_s_FrameOfAlgebra ((F_s_DrawFrameOfAlgebra code).1) ((F_s_DrawFrameOfAlgebra code).2)).1).2).length) c85], .int .i64 ((F_s_FrameOfAlgebra ((F_s_DrawFrameOfAlgebra code).1) ((F_s_DrawFrameOfAlgebra code).2)).2)]) hE81 (y_move rfl) rfl rfl rfl ?_; intro a87 hE88; clear hE81
   refine q_step (v := .agg #[.int .i64 (((F_s_FrameOfAlgebra ((F_s_DrawFrameOfAlgebra code).1) ((F_s_DrawFrameOfAlgebra code).2)).1).1), .slice b84 ((((F_s_FrameOfAlgebra ((F_s_DrawFrameOfAlgebra code).1) ((F_s_DrawFrameOfAlgebra code).2)).1).2).length) c85]) hE88 (y_extract rfl rfl) rfl rfl rfl ?_; intro a89 hE90; clear hE88
   refine q_step (v := .int .i64 ((F_s_FrameOfAlgebra ((F_s_DrawFrameOfAlgebra code).1) ((F_s_DrawFrameOfAlgebra code).2)).2)) hE90 (y_extract rfl rfl) rfl rfl rfl ?_; intro a91 hE92; clear hE90
   refine l_step hE92 rfl (l_alloc (z := .agg #[.int .i64 0, .slice none 0 0]) (cs := #[.int .i64 0, .slice none 0 0]) hS82 hE92 (fun _ => by kernel_rfl) rfl rfl ?_)
   intro b93 w94 hS97 he98 a95 hE96; clear hS82 hE92
   refine l_step hE96 rfl (l_storeS (k := 0) (cs' := #[.int .i64 (((F_s_FrameOfAlgebra ((F_s_DrawFrameOfAlgebra code).1) ((F_s_DrawFrameOfAlgebra code).2)).1).1), .slice b84 ((((F_s_FrameOfAlgebra ((F_s_DrawFrameOfAlgebra code).1) ((F_s_DrawFrameOfAlgebra code).2)).1).2).length) c85]) hS97 hE96 (by kernel_rfl) rfl rfl (by kernel_rfl) rfl rfl ?_)
   intro w100 hS103 a101 hE102; clear hS97 hE96
   refine q_step (v := .int .i64 ((F_s_FrameOfAlgebra ((F_s_DrawFrameOfAlgebra code).1) ((F_s_DrawFrameOfAlgebra code).2)).2)) hE102 (y_assign rfl) rfl rfl rfl ?_; intro a105 hE106; clear hE102
   refine c_nil ?_
   have hE107 := hE106.sub (L' := [(0, .slice codeA code.length codeC), (3, .pointer (some ⟨b30, 0, none⟩)), (4, .pointer (some ⟨b61, 0, none⟩)), (5, .int .i64 ((F_FrameOfAlgebra ((F_s_DrawFrameOfAlgebra code).1) ((F_s_DrawFrameOfAlgebra code).2)).2)), (6, .pointer (some ⟨b93, 0, none⟩)), (7, .int .i64 ((F_s_FrameOfAlgebra ((F_s_DrawFrameOfAlgebra code).1) ((F_s_DrawFrameOfAlgebra code).2)).2))]) ⟨rfl, rfl, rfl, rfl, rfl, rfl, trivial⟩; clear hE106
   refine p_tn ?_
   refine c_seq ?_
   refine c_seq ?_
   refine c_reg ?_
   refine q_step (v := .int .i64 ((F_FrameOfAlgebra ((F_s_DrawFrameOfAlgebra code).1) ((F_s_DrawFrameOfAlgebra code).2)).2)) hE107 (y_move rfl) rfl rfl rfl ?_; intro a108 hE109; clear hE107
   refine q_step (v := .int .i64 ((F_s_FrameOfAlgebra ((F_s_DrawFrameOfAlgebra code).1) ((F_s_DrawFrameOfAlgebra code).2)).2)) hE109 (y_move rfl) rfl rfl rfl ?_; intro a110 hE111; clear hE109
   refine q_step (v := .bool (!decide (((F_FrameOfAlgebra ((F_s_DrawFrameOfAlgebra code).1) ((F_s_DrawFrameOfAlgebra code).2)).2) = ((F_s_FrameOfAlgebra ((F_s_DrawFrameOfAlgebra code).1) ((F_s_DrawFrameOfAlgebra code).2)).2)))) hE111 (y_neq rfl rfl) rfl rfl rfl ?_; intro a112 hE113; clear hE111
   refine q_step (v := .bool (!decide (((F_FrameOfAlgebra ((F_s_DrawFrameOfAlgebra code).1) ((F_s_DrawFrameOfAlgebra code).2)).2) = ((F_s_FrameOfAlgebra ((F_s_DrawFrameOfAlgebra code).1) ((F_s_DrawFrameOfAlgebra code).2)).2)))) hE113 (y_move rfl) rfl rfl rfl ?_; intro a114 hE115; clear hE113
   rcases Bool.eq_false_or_eq_true (!decide (((F_FrameOfAlgebra ((F_s_DrawFrameOfAlgebra code).1) ((F_s_DrawFrameOfAlgebra code).2)).2) = ((F_s_FrameOfAlgebra ((F_s_DrawFrameOfAlgebra code).1) ((F_s_DrawFrameOfAlgebra code).2)).2))) with hb116 | hb116
   ·
    have hE117 := hE115; (try rw [hb116] at hE117); clear hE115
    have ht118 := bn_t hb116
    have hp119 := of_decide_eq_false ht118
    refine q_skip hE117 rfl rfl rfl ?_; intro a120 hE121; clear hE117
    refine q_skip hE121 rfl rfl rfl ?_; intro a122 hE123; clear hE121
    refine q_skip hE123 rfl rfl rfl ?_; intro a124 hE125; clear hE123
    refine q_skip hE125 rfl rfl rfl ?_; intro a126 hE127; clear hE125
    refine q_step (v := .bool true) hE127 (y_pick (b := true) rfl rfl) rfl rfl rfl ?_; intro a128 hE129; clear hE127
    refine c_nil ?_
    have hE130 := hE129.sub (L' := [(0, .slice codeA code.length codeC), (3, .pointer (some ⟨b30, 0, none⟩)), (5, .int .i64 ((F_FrameOfAlgebra ((F_s_DrawFrameOfAlgebra code).1) ((F_s_DrawFrameOfAlgebra code).2)).2)), (6, .pointer (some ⟨b93, 0, none⟩)), (39, .bool true)]) ⟨rfl, rfl, rfl, rfl, rfl, trivial⟩; clear hE129
    refine p_tn ?_
    refine c_true hE130 rfl ?_
    refine c_seq ?_
    refine c_reg ?_
    refine q_step (v := .bool false) hE130 (y_assign rfl) rfl rfl rfl ?_; intro a131 hE132; clear hE130
    refine c_nil ?_
    have hE133 := hE132.sub (L' := [(2, .bool false)]) ⟨rfl, trivial⟩; clear hE132
    refine p_tn ?_
    refine wp_ret ?_
    refine p_tr ?_
    have hF : F_l_FnModalDuality code = false := by unfold F_l_FnModalDuality; rw [hb116, ht13]; first | done | rfl
    refine c_ret1 hE133 rfl rfl ?_
    exact ⟨(by rw [hF]; first | done | (dsimp only; done) | rfl), hS103.ext⟩
   ·
    have hE134 := hE115; (try rw [hb116] at hE134); clear hE115
    have ht135 := bn_f hb116
    have hp136 := of_decide_eq_true ht135
    refine q_step (v := .agg #[.int .i64 (((F_FrameOfAlgebra ((F_s_DrawFrameOfAlgebra code).1) ((F_s_DrawFrameOfAlgebra code).2)).1).1), .slice b51 ((((F_FrameOfAlgebra ((F_s_DrawFrameOfAlgebra code).1) ((F_s_DrawFrameOfAlgebra code).2)).1).2).length) c52]) hE134 (y_loadS Try.underlying30 rfl (by kernel_rfl) rfl (St.row (i := 2) hS103 rfl)) rfl rfl rfl ?_; intro a137 hE138; clear hE134
    refine q_step (v := .agg #[.int .i64 (((F_s_FrameOfAlgebra ((F_s_DrawFrameOfAlgebra code).1) ((F_s_DrawFrameOfAlgebra code).2)).1).1), .slice b84 ((((F_s_FrameOfAlgebra ((F_s_DrawFrameOfAlgebra code).1) ((F_s_DrawFrameOfAlgebra code).2)).1).2).length) c85]) hE138 (y_loadS Try.underlying30 rfl (by kernel_rfl) rfl (St.row (i := 0) hS103 rfl)) rfl rfl rfl ?_; intro a139 hE140; clear hE138
    refine l_step hE140 rfl (l_call (f := 55) (argv := [.agg #[.int .i64 (((F_FrameOfAlgebra ((F_s_DrawFrameOfAlgebra code).1) ((F_s_DrawFrameOfAlgebra code).2)).1).1), .slice b51 ((((F_FrameOfAlgebra ((F_s_DrawFrameOfAlgebra code).1) ((F_s_DrawFrameOfAlgebra code).2)).1).2).length) c52], .agg #[.int .i64 (((F_s_FrameOfAlgebra ((F_s_DrawFrameOfAlgebra code).1) ((F_s_DrawFrameOfAlgebra code).2)).1).1), .slice b84 ((((F_s_FrameOfAlgebra ((F_s_DrawFrameOfAlgebra code).1) ((F_s_DrawFrameOfAlgebra code).2)).1).2).length) c85]]) hE140 (fun _ => cf_l_likeFrame5 _ _) rfl rfl (c_l_likeFrame5 (((F_FrameOfAlgebra ((F_s_DrawFrameOfAlgebra code).1) ((F_s_DrawFrameOfAlgebra code).2)).1).1) b51 ((((F_FrameOfAlgebra ((F_s_DrawFrameOfAlgebra code).1) ((F_s_DrawFrameOfAlgebra code).2)).1).2).length) c52 (((F_FrameOfAlgebra ((F_s_DrawFrameOfAlgebra code).1) ((F_s_DrawFrameOfAlgebra code).2)).1).2) (((F_s_FrameOfAlgebra ((F_s_DrawFrameOfAlgebra code).1) ((F_s_DrawFrameOfAlgebra code).2)).1).1) b84 ((((F_s_FrameOfAlgebra ((F_s_DrawFrameOfAlgebra code).1) ((F_s_DrawFrameOfAlgebra code).2)).1).2).length) c85 (((F_s_FrameOfAlgebra ((F_s_DrawFrameOfAlgebra code).1) ((F_s_DrawFrameOfAlgebra code).2)).1).2) w100 (St.rdO (i := 3) hS103 rfl) (St.rdO (i := 1) hS103 rfl)) ?_)
    rintro _ w142 ⟨rfl, he146⟩ a143 hE144; clear hE140
    have hS145 := St.go hS103 he146; clear hS103
    refine q_step (v := .bool (!(F_l_likeFrame5 (((F_FrameOfAlgebra ((F_s_DrawFrameOfAlgebra code).1) ((F_s_DrawFrameOfAlgebra code).2)).1).1) (((F_FrameOfAlgebra ((F_s_DrawFrameOfAlgebra code).1) ((F_s_DrawFrameOfAlgebra code).2)).1).2) (((F_s_FrameOfAlgebra ((F_s_DrawFrameOfAlgebra code).1) ((F_s_DrawFrameOfAlgebra code).2)).1).1) (((F_s_FrameOfAlgebra ((F_s_DrawFrameOfAlgebra code).1) ((F_s_DrawFrameOfAlgebra code).2)).1).2)))) hE144 (y_not rfl) rfl rfl rfl ?_; intro a147 hE148; clear hE144
    refine q_step (v := .bool (!(F_l_likeFrame5 (((F_FrameOfAlgebra ((F_s_DrawFrameOfAlgebra code).1) ((F_s_DrawFrameOfAlgebra code).2)).1).1) (((F_FrameOfAlgebra ((F_s_DrawFrameOfAlgebra code).1) ((F_s_DrawFrameOfAlgebra code).2)).1).2) (((F_s_FrameOfAlgebra ((F_s_DrawFrameOfAlgebra code).1) ((F_s_DrawFrameOfAlgebra code).2)).1).1) (((F_s_FrameOfAlgebra ((F_s_DrawFrameOfAlgebra code).1) ((F_s_DrawFrameOfAlgebra code).2)).1).2)))) hE148 (y_pick (b := false) rfl rfl) rfl rfl rfl ?_; intro a149 hE150; clear hE148
    refine c_nil ?_
    have hE151 := hE150.sub (L' := [(0, .slice codeA code.length codeC), (3, .pointer (some ⟨b30, 0, none⟩)), (5, .int .i64 ((F_FrameOfAlgebra ((F_s_DrawFrameOfAlgebra code).1) ((F_s_DrawFrameOfAlgebra code).2)).2)), (6, .pointer (some ⟨b93, 0, none⟩)), (39, .bool (!(F_l_likeFrame5 (((F_FrameOfAlgebra ((F_s_DrawFrameOfAlgebra code).1) ((F_s_DrawFrameOfAlgebra code).2)).1).1) (((F_FrameOfAlgebra ((F_s_DrawFrameOfAlgebra code).1) ((F_s_DrawFrameOfAlgebra code).2)).1).2) (((F_s_FrameOfAlgebra ((F_s_DrawFrameOfAlgebra code).1) ((F_s_DrawFrameOfAlgebra code).2)).1).1) (((F_s_FrameOfAlgebra ((F_s_DrawFrameOfAlgebra code).1) ((F_s_DrawFrameOfAlgebra code).2)).1).2))))]) ⟨rfl, rfl, rfl, rfl, rfl, trivial⟩; clear hE150
    refine p_tn ?_
    refine c_cond hE151 rfl (fun ht152 => ?_) (fun ht152 => ?_)
    ·
     have ht153 := bn_t ht152
     have hE154 := hE151; rw [ht152] at hE154; clear hE151
     refine c_seq ?_
     refine c_reg ?_
     refine q_step (v := .bool false) hE154 (y_assign rfl) rfl rfl rfl ?_; intro a155 hE156; clear hE154
     refine c_nil ?_
     have hE157 := hE156.sub (L' := [(2, .bool false)]) ⟨rfl, trivial⟩; clear hE156
     refine p_tn ?_
     refine wp_ret ?_
     refine p_tr ?_
     have hF : F_l_FnModalDuality code = false := by unfold F_l_FnModalDuality; rw [ht152, hb116, ht13]; first | done | rfl
     refine c_ret1 hE157 rfl rfl ?_
     exact ⟨(by rw [hF]; first | done | (dsimp only; done) | rfl), hS145.ext⟩
    ·
     have ht158 := bn_f ht152
     have hE159 := hE151; rw [ht152] at hE159; clear hE151
     refine wp_skip ?_
     refine p_tn ?_
     refine c_seq ?_
     refine c_seq ?_
     refine c_reg ?_
     refine q_step (v := .int .i64 ((F_FrameOfAlgebra ((F_s_DrawFrameOfAlgebra code).1) ((F_s_DrawFrameOfAlgebra code).2)).2)) hE159 (y_move rfl) rfl rfl rfl ?_; intro a160 hE161; clear hE159
     refine q_step (v := .bool (decide (((F_FrameOfAlgebra ((F_s_DrawFrameOfAlgebra code).1) ((F_s_DrawFrameOfAlgebra code).2)).2) = 0))) hE161 (y_eql rfl rfl) rfl rfl rfl ?_; intro a162 hE163; clear hE161
     refine c_nil ?_
     have hE164 := hE163.sub (L' := [(0, .slice codeA code.length codeC), (3, .pointer (some ⟨b30, 0, none⟩)), (6, .pointer (some ⟨b93, 0, none⟩)), (41, .bool (decide (((F_FrameOfAlgebra ((F_s_DrawFrameOfAlgebra code).1) ((F_s_DrawFrameOfAlgebra code).2)).2) = 0)))]) ⟨rfl, rfl, rfl, rfl, trivial⟩; clear hE163
     refine p_tn ?_
     refine c_cond hE164 rfl (fun ht165 => ?_) (fun ht165 => ?_)
     ·
      have hp166 := of_decide_eq_true ht165
      have hE167 := hE164; rw [ht165] at hE167; clear hE164
      refine c_seq ?_
      refine c_reg ?_
      refine q_step (v := .agg #[.int .i64 (((F_s_FrameOfAlgebra ((F_s_DrawFrameOfAlgebra code).1) ((F_s_DrawFrameOfAlgebra code).2)).1).1), .slice b84 ((((F_s_FrameOfAlgebra ((F_s_DrawFrameOfAlgebra code).1) ((F_s_DrawFrameOfAlgebra code).2)).1).2).length) c85]) hE167 (y_loadS Try.underlying30 rfl (by kernel_rfl) rfl (St.row (i := 0) hS145 rfl)) rfl rfl rfl ?_; intro a168 hE169; clear hE167
      refine l_step hE169 rfl (l_call (f := 70) (argv := [.agg #[.int .i64 (((F_s_FrameOfAlgebra ((F_s_DrawFrameOfAlgebra code).1) ((F_s_DrawFrameOfAlgebra code).2)).1).1), .slice b84 ((((F_s_FrameOfAlgebra ((F_s_DrawFrameOfAlgebra code).1) ((F_s_DrawFrameOfAlgebra code).2)).1).2).length) c85]]) hE169 (fun _ => cf_AlgebraOfFrame _ _) rfl rfl (c_AlgebraOfFrame (((F_s_FrameOfAlgebra ((F_s_DrawFrameOfAlgebra code).1) ((F_s_DrawFrameOfAlgebra code).2)).1).1) b84 ((((F_s_FrameOfAlgebra ((F_s_DrawFrameOfAlgebra code).1) ((F_s_DrawFrameOfAlgebra code).2)).1).2).length) c85 (((F_s_FrameOfAlgebra ((F_s_DrawFrameOfAlgebra code).1) ((F_s_DrawFrameOfAlgebra code).2)).1).2) w142 (St.rdO (i := 1) hS145 rfl)) ?_)
      rintro _ w171 ⟨b176, c177, rfl, ho178, he175⟩ a172 hE173; clear hE169
      have hf179 := AlgebraOfFrame_len (((F_s_FrameOfAlgebra ((F_s_DrawFrameOfAlgebra code).1) ((F_s_DrawFrameOfAlgebra code).2)).1).1) (((F_s_FrameOfAlgebra ((F_s_DrawFrameOfAlgebra code).1) ((F_s_DrawFrameOfAlgebra code).2)).1).2)
      have hS174 := St.own hS145 he175 ho178; clear hS145
      refine q_step (v := .tuple #[.agg #[.int .i64 (((F_AlgebraOfFrame (((F_s_FrameOfAlgebra ((F_s_DrawFrameOfAlgebra code).1) ((F_s_DrawFrameOfAlgebra code).2)).1).1) (((F_s_FrameOfAlgebra ((F_s_DrawFrameOfAlgebra code).1) ((F_s_DrawFrameOfAlgebra code).2)).1).2)).1).1), .slice b176 ((((F_AlgebraOfFrame (((F_s_FrameOfAlgebra ((F_s_DrawFrameOfAlgebra code).1) ((F_s_DrawFrameOfAlgebra code).2)).1).1) (((F_s_FrameOfAlgebra ((F_s_DrawFrameOfAlgebra code).1) ((F_s_DrawFrameOfAlgebra code).2)).1).2)).1).2).length) c177], .int .i64 ((F_AlgebraOfFrame (((F_s_FrameOfAlgebra ((F_s_DrawFrameOfAlgebra code).1) ((F_s_DrawFrameOfAlgebra code).2)).1).1) (((F_s_FrameOfAlgebra ((F_s_DrawFrameOfAlgebra code).1) ((F_s_DrawFrameOfAlgebra code).2)).1).2)).2)]) hE173 (y_move rfl) rfl rfl rfl ?_; intro a180 hE181; clear hE173
      refine q_step (v := .agg #[.int .i64 (((F_AlgebraOfFrame (((F_s_FrameOfAlgebra ((F_s_DrawFrameOfAlgebra code).1) ((F_s_DrawFrameOfAlgebra code).2)).1).1) (((F_s_FrameOfAlgebra ((F_s_DrawFrameOfAlgebra code).1) ((F_s_DrawFrameOfAlgebra code).2)).1).2)).1).1), .slice b176 ((((F_AlgebraOfFrame (((F_s_FrameOfAlgebra ((F_s_DrawFrameOfAlgebra code).1) ((F_s_DrawFrameOfAlgebra code).2)).1).1) (((F_s_FrameOfAlgebra ((F_s_DrawFrameOfAlgebra code).1) ((F_s_DrawFrameOfAlgebra code).2)).1).2)).1).2).length) c177]) hE181 (y_extract rfl rfl) rfl rfl rfl ?_; intro a182 hE183; clear hE181
      refine q_step (v := .int .i64 ((F_AlgebraOfFrame (((F_s_FrameOfAlgebra ((F_s_DrawFrameOfAlgebra code).1) ((F_s_DrawFrameOfAlgebra code).2)).1).1) (((F_s_FrameOfAlgebra ((F_s_DrawFrameOfAlgebra code).1) ((F_s_DrawFrameOfAlgebra code).2)).1).2)).2)) hE183 (y_extract rfl rfl) rfl rfl rfl ?_; intro a184 hE185; clear hE183
      refine l_step hE185 rfl (l_alloc (z := .agg #[.int .i64 0, .slice none 0 0]) (cs := #[.int .i64 0, .slice none 0 0]) hS174 hE185 (fun _ => by kernel_rfl) rfl rfl ?_)
      intro b186 w187 hS190 he191 a188 hE189; clear hS174 hE185
      refine l_step hE189 rfl (l_storeS (k := 0) (cs' := #[.int .i64 (((F_AlgebraOfFrame (((F_s_FrameOfAlgebra ((F_s_DrawFrameOfAlgebra code).1) ((F_s_DrawFrameOfAlgebra code).2)).1).1) (((F_s_FrameOfAlgebra ((F_s_DrawFrameOfAlgebra code).1) ((F_s_DrawFrameOfAlgebra code).2)).1).2)).1).1), .slice b176 ((((F_AlgebraOfFrame (((F_s_FrameOfAlgebra ((F_s_DrawFrameOfAlgebra code).1) ((F_s_DrawFrameOfAlgebra code).2)).1).1) (((F_s_FrameOfAlgebra ((F_s_DrawFrameOfAlgebra code).1) ((F_s_DrawFrameOfAlgebra code).2)).1).2)).1).2).length) c177]) hS190 hE189 (by kernel_rfl) rfl rfl (by kernel_rfl) rfl rfl ?_)
      intro w193 hS196 a194 hE195; clear hS190 hE189
      refine q_step (v := .int .i64 ((F_AlgebraOfFrame (((F_s_FrameOfAlgebra ((F_s_DrawFrameOfAlgebra code).1) ((F_s_DrawFrameOfAlgebra code).2)).1).1) (((F_s_FrameOfAlgebra ((F_s_DrawFrameOfAlgebra code).1) ((F_s_DrawFrameOfAlgebra code).2)).1).2)).2)) hE195 (y_assign rfl) rfl rfl rfl ?_; intro a198 hE199; clear hE195
      refine c_nil ?_
      have hE200 := hE199.sub (L' := [(0, .slice codeA code.length codeC), (3, .pointer (some ⟨b30, 0, none⟩)), (8, .pointer (some ⟨b186, 0, none⟩)), (9, .int .i64 ((F_AlgebraOfFrame (((F_s_FrameOfAlgebra ((F_s_DrawFrameOfAlgebra code).1) ((F_s_DrawFrameOfAlgebra code).2)).1).1) (((F_s_FrameOfAlgebra ((F_s_DrawFrameOfAlgebra code).1) ((F_s_DrawFrameOfAlgebra code).2)).1).2)).2))]) ⟨rfl, rfl, rfl, rfl, trivial⟩; clear hE199
      refine p_tn ?_
      refine c_seq ?_
      refine c_reg ?_
      refine q_step (v := .int .i64 ((F_AlgebraOfFrame (((F_s_FrameOfAlgebra ((F_s_DrawFrameOfAlgebra code).1) ((F_s_DrawFrameOfAlgebra code).2)).1).1) (((F_s_FrameOfAlgebra ((F_s_DrawFrameOfAlgebra code).1) ((F_s_DrawFrameOfAlgebra code).2)).1).2)).2)) hE200 (y_move rfl) rfl rfl rfl ?_; intro a201 hE202; clear hE200
      refine q_step (v := .bool (!decide (((F_AlgebraOfFrame (((F_s_FrameOfAlgebra ((F_s_DrawFrameOfAlgebra code).1) ((F_s_DrawFrameOfAlgebra code).2)).1).1) (((F_s_FrameOfAlgebra ((F_s_DrawFrameOfAlgebra code).1) ((F_s_DrawFrameOfAlgebra code).2)).1).2)).2) = 0))) hE202 (y_neq rfl rfl) rfl rfl rfl ?_; intro a203 hE204; clear hE202
      refine q_step (v := .bool (!decide (((F_AlgebraOfFrame (((F_s_FrameOfAlgebra ((F_s_DrawFrameOfAlgebra code).1) ((F_s_DrawFrameOfAlgebra code).2)).1).1) (((F_s_FrameOfAlgebra ((F_s_DrawFrameOfAlgebra code).1) ((F_s_DrawFrameOfAlgebra code).2)).1).2)).2) = 0))) hE204 (y_move rfl) rfl rfl rfl ?_; intro a205 hE206; clear hE204
      rcases Bool.eq_false_or_eq_true (!decide (((F_AlgebraOfFrame (((F_s_FrameOfAlgebra ((F_s_DrawFrameOfAlgebra code).1) ((F_s_DrawFrameOfAlgebra code).2)).1).1) (((F_s_FrameOfAlgebra ((F_s_DrawFrameOfAlgebra code).1) ((F_s_DrawFrameOfAlgebra code).2)).1).2)).2) = 0)) with hb207 | hb207
      ·
       have hE208 := hE206; (try rw [hb207] at hE208); clear hE206
       have ht209 := bn_t hb207
       have hp210 := of_decide_eq_false ht209
       refine q_skip hE208 rfl rfl rfl ?_; intro a211 hE212; clear hE208
       refine q_skip hE212 rfl rfl rfl ?_; intro a213 hE214; clear hE212
       refine q_skip hE214 rfl rfl rfl ?_; intro a215 hE216; clear hE214
       refine q_skip hE216 rfl rfl rfl ?_; intro a217 hE218; clear hE216
       refine q_step (v := .bool true) hE218 (y_pick (b := true) rfl rfl) rfl rfl rfl ?_; intro a219 hE220; clear hE218
       refine q_step (v := .bool true) hE220 (y_move rfl) rfl rfl rfl ?_; intro a221 hE222; clear hE220
       refine q_skip hE222 rfl rfl rfl ?_; intro a223 hE224; clear hE222
       refine q_skip hE224 rfl rfl rfl ?_; intro a225 hE226; clear hE224
       refine q_skip hE226 rfl rfl rfl ?_; intro a227 hE228; clear hE226
       refine q_step (v := .bool true) hE228 (y_pick (b := true) rfl rfl) rfl rfl rfl ?_; intro a229 hE230; clear hE228
       refine c_nil ?_
       have hE231 := hE230.sub (L' := [(0, .slice codeA code.length codeC), (59, .bool true)]) ⟨rfl, rfl, trivial⟩; clear hE230
       refine p_tn ?_
       refine c_true hE231 rfl ?_
       refine c_seq ?_
       refine c_reg ?_
       refine q_step (v := .bool false) hE231 (y_assign rfl) rfl rfl rfl ?_; intro a232 hE233; clear hE231
       refine c_nil ?_
       have hE234 := hE233.sub (L' := [(2, .bool false)]) ⟨rfl, trivial⟩; clear hE233
       refine p_tn ?_
       refine wp_ret ?_
       refine p_tr ?_
       have hF : F_l_FnModalDuality code = false := by unfold F_l_FnModalDuality; rw [hb207, ht165, ht152, hb116, ht13]; first | done | rfl
       refine c_ret1 hE234 rfl rfl ?_
       exact ⟨(by rw [hF]; first | done | (dsimp only; done) | rfl), hS196.ext⟩
      ·
       have hE235 := hE206; (try rw [hb207] at hE235); clear hE206
       have ht236 := bn_f hb207
       have hp237 := of_decide_eq_true ht236
       refine q_step (v := .agg #[.int .i64 (((F_AlgebraOfFrame (((F_s_FrameOfAlgebra ((F_s_DrawFrameOfAlgebra code).1) ((F_s_DrawFrameOfAlgebra code).2)).1).1) (((F_s_FrameOfAlgebra ((F_s_DrawFrameOfAlgebra code).1) ((F_s_DrawFrameOfAlgebra code).2)).1).2)).1).1), .slice b176 ((((F_AlgebraOfFrame (((F_s_FrameOfAlgebra ((F_s_DrawFrameOfAlgebra code).1) ((F_s_DrawFrameOfAlgebra code).2)).1).1) (((F_s_FrameOfAlgebra ((F_s_DrawFrameOfAlgebra code).1) ((F_s_DrawFrameOfAlgebra code).2)).1).2)).1).2).length) c177]) hE235 (y_loadS Try.underlying79 rfl (by kernel_rfl) rfl (St.row (i := 0) hS196 rfl)) rfl rfl rfl ?_; intro a238 hE239; clear hE235
       refine q_step (v := .agg #[.int .i64 ((F_s_DrawFrameOfAlgebra code).1), .slice b27 (((F_s_DrawFrameOfAlgebra code).2).length) c28]) hE239 (y_loadS Try.underlying79 rfl (by kernel_rfl) rfl (St.row (i := 6) hS196 rfl)) rfl rfl rfl ?_; intro a240 hE241; clear hE239
       refine l_step hE241 rfl (l_call (f := 71) (argv := [.agg #[.int .i64 (((F_AlgebraOfFrame (((F_s_FrameOfAlgebra ((F_s_DrawFrameOfAlgebra code).1) ((F_s_DrawFrameOfAlgebra code).2)).1).1) (((F_s_FrameOfAlgebra ((F_s_DrawFrameOfAlgebra code).1) ((F_s_DrawFrameOfAlgebra code).2)).1).2)).1).1), .slice b176 ((((F_AlgebraOfFrame (((F_s_FrameOfAlgebra ((F_s_DrawFrameOfAlgebra code).1) ((F_s_DrawFrameOfAlgebra code).2)).1).1) (((F_s_FrameOfAlgebra ((F_s_DrawFrameOfAlgebra code).1) ((F_s_DrawFrameOfAlgebra code).2)).1).2)).1).2).length) c177], .agg #[.int .i64 ((F_s_DrawFrameOfAlgebra code).1), .slice b27 (((F_s_DrawFrameOfAlgebra code).2).length) c28]]) hE241 (fun _ => cf_l_likeAlgebra5 _ _) rfl rfl (c_l_likeAlgebra5 (((F_AlgebraOfFrame (((F_s_FrameOfAlgebra ((F_s_DrawFrameOfAlgebra code).1) ((F_s_DrawFrameOfAlgebra code).2)).1).1) (((F_s_FrameOfAlgebra ((F_s_DrawFrameOfAlgebra code).1) ((F_s_DrawFrameOfAlgebra code).2)).1).2)).1).1) b176 ((((F_AlgebraOfFrame (((F_s_FrameOfAlgebra ((F_s_DrawFrameOfAlgebra code).1) ((F_s_DrawFrameOfAlgebra code).2)).1).1) (((F_s_FrameOfAlgebra ((F_s_DrawFrameOfAlgebra code).1) ((F_s_DrawFrameOfAlgebra code).2)).1).2)).1).2).length) c177 (((F_AlgebraOfFrame (((F_s_FrameOfAlgebra ((F_s_DrawFrameOfAlgebra code).1) ((F_s_DrawFrameOfAlgebra code).2)).1).1) (((F_s_FrameOfAlgebra ((F_s_DrawFrameOfAlgebra code).1) ((F_s_DrawFrameOfAlgebra code).2)).1).2)).1).2) ((F_s_DrawFrameOfAlgebra code).1) b27 (((F_s_DrawFrameOfAlgebra code).2).length) c28 ((F_s_DrawFrameOfAlgebra code).2) w193 (St.rdO (i := 1) hS196 rfl) (St.rdO (i := 7) hS196 rfl)) ?_)
       rintro _ w243 ⟨rfl, he247⟩ a244 hE245; clear hE241
       have hS246 := St.go hS196 he247; clear hS196
       refine q_step (v := .bool (!(F_l_likeAlgebra5 (((F_AlgebraOfFrame (((F_s_FrameOfAlgebra ((F_s_DrawFrameOfAlgebra code).1) ((F_s_DrawFrameOfAlgebra code).2)).1).1) (((F_s_FrameOfAlgebra ((F_s_DrawFrameOfAlgebra code).1) ((F_s_DrawFrameOfAlgebra code).2)).1).2)).1).1) (((F_AlgebraOfFrame (((F_s_FrameOfAlgebra ((F_s_DrawFrameOfAlgebra code).1) ((F_s_DrawFrameOfAlgebra code).2)).1).1) (((F_s_FrameOfAlgebra ((F_s_DrawFrameOfAlgebra code).1) ((F_s_DrawFrameOfAlgebra code).2)).1).2)).1).2) ((F_s_DrawFrameOfAlgebra code).1) ((F_s_DrawFrameOfAlgebra code).2)))) hE245 (y_not rfl) rfl rfl rfl ?_; intro a248 hE249; clear hE245
       refine q_step (v := .bool (!(F_l_likeAlgebra5 (((F_AlgebraOfFrame (((F_s_FrameOfAlgebra ((F_s_DrawFrameOfAlgebra code).1) ((F_s_DrawFrameOfAlgebra code).2)).1).1) (((F_s_FrameOfAlgebra ((F_s_DrawFrameOfAlgebra code).1) ((F_s_DrawFrameOfAlgebra code).2)).1).2)).1).1) (((F_AlgebraOfFrame (((F_s_FrameOfAlgebra ((F_s_DrawFrameOfAlgebra code).1) ((F_s_DrawFrameOfAlgebra code).2)).1).1) (((F_s_FrameOfAlgebra ((F_s_DrawFrameOfAlgebra code).1) ((F_s_DrawFrameOfAlgebra code).2)).1).2)).1).2) ((F_s_DrawFrameOfAlgebra code).1) ((F_s_DrawFrameOfAlgebra code).2)))) hE249 (y_pick (b := false) rfl rfl) rfl rfl rfl ?_; intro a250 hE251; clear hE249
       refine q_step (v := .bool (!(F_l_likeAlgebra5 (((F_AlgebraOfFrame (((F_s_FrameOfAlgebra ((F_s_DrawFrameOfAlgebra code).1) ((F_s_DrawFrameOfAlgebra code).2)).1).1) (((F_s_FrameOfAlgebra ((F_s_DrawFrameOfAlgebra code).1) ((F_s_DrawFrameOfAlgebra code).2)).1).2)).1).1) (((F_AlgebraOfFrame (((F_s_FrameOfAlgebra ((F_s_DrawFrameOfAlgebra code).1) ((F_s_DrawFrameOfAlgebra code).2)).1).1) (((F_s_FrameOfAlgebra ((F_s_DrawFrameOfAlgebra code).1) ((F_s_DrawFrameOfAlgebra code).2)).1).2)).1).2) ((F_s_DrawFrameOfAlgebra code).1) ((F_s_DrawFrameOfAlgebra code).2)))) hE251 (y_move rfl) rfl rfl rfl ?_; intro a252 hE253; clear hE251
       rcases Bool.eq_false_or_eq_true (!(F_l_likeAlgebra5 (((F_AlgebraOfFrame (((F_s_FrameOfAlgebra ((F_s_DrawFrameOfAlgebra code).1) ((F_s_DrawFrameOfAlgebra code).2)).1).1) (((F_s_FrameOfAlgebra ((F_s_DrawFrameOfAlgebra code).1) ((F_s_DrawFrameOfAlgebra code).2)).1).2)).1).1) (((F_AlgebraOfFrame (((F_s_FrameOfAlgebra ((F_s_DrawFrameOfAlgebra code).1) ((F_s_DrawFrameOfAlgebra code).2)).1).1) (((F_s_FrameOfAlgebra ((F_s_DrawFrameOfAlgebra code).1) ((F_s_DrawFrameOfAlgebra code).2)).1).2)).1).2) ((F_s_DrawFrameOfAlgebra code).1) ((F_s_DrawFrameOfAlgebra code).2))) with hb254 | hb254
       ·
        have hE255 := hE253; (try rw [hb254] at hE255); clear hE253
        have ht256 := bn_t hb254
        refine q_skip hE255 rfl rfl rfl ?_; intro a257 hE258; clear hE255
        refine q_skip hE258 rfl rfl rfl ?_; intro a259 hE260; clear hE258
        refine q_skip hE260 rfl rfl rfl ?_; intro a261 hE262; clear hE260
        refine q_step (v := .bool true) hE262 (y_pick (b := true) rfl rfl) rfl rfl rfl ?_; intro a263 hE264; clear hE262
        refine c_nil ?_
        have hE265 := hE264.sub (L' := [(0, .slice codeA code.length codeC), (59, .bool true)]) ⟨rfl, rfl, trivial⟩; clear hE264
        refine p_tn ?_
        refine c_true hE265 rfl ?_
        refine c_seq ?_
        refine c_reg ?_
        refine q_step (v := .bool false) hE265 (y_assign rfl) rfl rfl rfl ?_; intro a266 hE267; clear hE265
        refine c_nil ?_
        have hE268 := hE267.sub (L' := [(2, .bool false)]) ⟨rfl, trivial⟩; clear hE267
        refine p_tn ?_
        refine wp_ret ?_
        refine p_tr ?_
        have hF : F_l_FnModalDuality code = false := by unfold F_l_FnModalDuality; rw [hb254, hb207, ht165, ht152, hb116, ht13]; first | done | rfl
        refine c_ret1 hE268 rfl rfl ?_
        exact ⟨(by rw [hF]; first | done | (dsimp only; done) | rfl), hS246.ext⟩
       ·
        have hE269 := hE253; (try rw [hb254] at hE269); clear hE253
        have ht270 := bn_f hb254
        refine q_step (v := .agg #[.int .i64 (((F_AlgebraOfFrame (((F_s_FrameOfAlgebra ((F_s_DrawFrameOfAlgebra code).1) ((F_s_DrawFrameOfAlgebra code).2)).1).1) (((F_s_FrameOfAlgebra ((F_s_DrawFrameOfAlgebra code).1) ((F_s_DrawFrameOfAlgebra code).2)).1).2)).1).1), .slice b176 ((((F_AlgebraOfFrame (((F_s_FrameOfAlgebra ((F_s_DrawFrameOfAlgebra code).1) ((F_s_DrawFrameOfAlgebra code).2)).1).1) (((F_s_FrameOfAlgebra ((F_s_DrawFrameOfAlgebra code).1) ((F_s_DrawFrameOfAlgebra code).2)).1).2)).1).2).length) c177]) hE269 (y_loadS Try.underlying79 rfl (by kernel_rfl) rfl (St.row (i := 0) hS246 rfl)) rfl rfl rfl ?_; intro a271 hE272; clear hE269
        refine l_step hE272 rfl (l_call (f := 72) (argv := [.agg #[.int .i64 (((F_AlgebraOfFrame (((F_s_FrameOfAlgebra ((F_s_DrawFrameOfAlgebra code).1) ((F_s_DrawFrameOfAlgebra code).2)).1).1) (((F_s_FrameOfAlgebra ((F_s_DrawFrameOfAlgebra code).1) ((F_s_DrawFrameOfAlgebra code).2)).1).2)).1).1), .slice b176 ((((F_AlgebraOfFrame (((F_s_FrameOfAlgebra ((F_s_DrawFrameOfAlgebra code).1) ((F_s_DrawFrameOfAlgebra code).2)).1).1) (((F_s_FrameOfAlgebra ((F_s_DrawFrameOfAlgebra code).1) ((F_s_DrawFrameOfAlgebra code).2)).1).2)).1).2).length) c177]]) hE272 (fun _ => cf_IsModalAlgebra _ _) rfl rfl (c_IsModalAlgebra (((F_AlgebraOfFrame (((F_s_FrameOfAlgebra ((F_s_DrawFrameOfAlgebra code).1) ((F_s_DrawFrameOfAlgebra code).2)).1).1) (((F_s_FrameOfAlgebra ((F_s_DrawFrameOfAlgebra code).1) ((F_s_DrawFrameOfAlgebra code).2)).1).2)).1).1) b176 ((((F_AlgebraOfFrame (((F_s_FrameOfAlgebra ((F_s_DrawFrameOfAlgebra code).1) ((F_s_DrawFrameOfAlgebra code).2)).1).1) (((F_s_FrameOfAlgebra ((F_s_DrawFrameOfAlgebra code).1) ((F_s_DrawFrameOfAlgebra code).2)).1).2)).1).2).length) c177 (((F_AlgebraOfFrame (((F_s_FrameOfAlgebra ((F_s_DrawFrameOfAlgebra code).1) ((F_s_DrawFrameOfAlgebra code).2)).1).1) (((F_s_FrameOfAlgebra ((F_s_DrawFrameOfAlgebra code).1) ((F_s_DrawFrameOfAlgebra code).2)).1).2)).1).2) w243 (St.rdO (i := 1) hS246 rfl)) ?_)
        rintro _ w274 ⟨rfl, he278⟩ a275 hE276; clear hE272
        have hS277 := St.go hS246 he278; clear hS246
        refine q_step (v := .bool (!(F_IsModalAlgebra (((F_AlgebraOfFrame (((F_s_FrameOfAlgebra ((F_s_DrawFrameOfAlgebra code).1) ((F_s_DrawFrameOfAlgebra code).2)).1).1) (((F_s_FrameOfAlgebra ((F_s_DrawFrameOfAlgebra code).1) ((F_s_DrawFrameOfAlgebra code).2)).1).2)).1).1) (((F_AlgebraOfFrame (((F_s_FrameOfAlgebra ((F_s_DrawFrameOfAlgebra code).1) ((F_s_DrawFrameOfAlgebra code).2)).1).1) (((F_s_FrameOfAlgebra ((F_s_DrawFrameOfAlgebra code).1) ((F_s_DrawFrameOfAlgebra code).2)).1).2)).1).2)))) hE276 (y_not rfl) rfl rfl rfl ?_; intro a279 hE280; clear hE276
        refine q_step (v := .bool (!(F_IsModalAlgebra (((F_AlgebraOfFrame (((F_s_FrameOfAlgebra ((F_s_DrawFrameOfAlgebra code).1) ((F_s_DrawFrameOfAlgebra code).2)).1).1) (((F_s_FrameOfAlgebra ((F_s_DrawFrameOfAlgebra code).1) ((F_s_DrawFrameOfAlgebra code).2)).1).2)).1).1) (((F_AlgebraOfFrame (((F_s_FrameOfAlgebra ((F_s_DrawFrameOfAlgebra code).1) ((F_s_DrawFrameOfAlgebra code).2)).1).1) (((F_s_FrameOfAlgebra ((F_s_DrawFrameOfAlgebra code).1) ((F_s_DrawFrameOfAlgebra code).2)).1).2)).1).2)))) hE280 (y_pick (b := false) rfl rfl) rfl rfl rfl ?_; intro a281 hE282; clear hE280
        refine c_nil ?_
        have hE283 := hE282.sub (L' := [(0, .slice codeA code.length codeC), (59, .bool (!(F_IsModalAlgebra (((F_AlgebraOfFrame (((F_s_FrameOfAlgebra ((F_s_DrawFrameOfAlgebra code).1) ((F_s_DrawFrameOfAlgebra code).2)).1).1) (((F_s_FrameOfAlgebra ((F_s_DrawFrameOfAlgebra code).1) ((F_s_DrawFrameOfAlgebra code).2)).1).2)).1).1) (((F_AlgebraOfFrame (((F_s_FrameOfAlgebra ((F_s_DrawFrameOfAlgebra code).1) ((F_s_DrawFrameOfAlgebra code).2)).1).1) (((F_s_FrameOfAlgebra ((F_s_DrawFrameOfAlgebra code).1) ((F_s_DrawFrameOfAlgebra code).2)).1).2)).1).2))))]) ⟨rfl, rfl, trivial⟩; clear hE282
        refine p_tn ?_
        refine c_cond hE283 rfl (fun ht284 => ?_) (fun ht284 => ?_)
        ·
         have ht285 := bn_t ht284
         have hE286 := hE283; rw [ht284] at hE286; clear hE283
         refine c_seq ?_
         refine c_reg ?_
         refine q_step (v := .bool false) hE286 (y_assign rfl) rfl rfl rfl ?_; intro a287 hE288; clear hE286
         refine c_nil ?_
         have hE289 := hE288.sub (L' := [(2, .bool false)]) ⟨rfl, trivial⟩; clear hE288
         refine p_tn ?_
         refine wp_ret ?_
         refine p_tr ?_
         have hF : F_l_FnModalDuality code = false := by unfold F_l_FnModalDuality; rw [ht284, hb254, hb207, ht165, ht152, hb116, ht13]; first | done | rfl
         refine c_ret1 hE289 rfl rfl ?_
         exact ⟨(by rw [hF]; first | done | (dsimp only; done) | rfl), hS277.ext⟩
        ·
         have ht290 := bn_f ht284
         have hE291 := hE283; rw [ht284] at hE291; clear hE283
         refine wp_skip ?_
         refine p_tn ?_
         refine c_seq ?_
         refine c_reg ?_
         refine q_step (v := .slice codeA code.length codeC) hE291 (y_move rfl) rfl rfl rfl ?_; intro a292 hE293; clear hE291
         refine l_step hE293 rfl (l_call (f := 73) (argv := [.slice codeA code.length codeC]) hE293 (fun _ => cf_s_DrawAlgebraOfFrame _ _) rfl rfl (c_s_DrawAlgebraOfFrame codeA code.length codeC code w274 (codeR.ext hS277.ext)) ?_)
         rintro _ w295 ⟨b300, c301, rfl, ho302, he299⟩ a296 hE297; clear hE293
         have hS298 := St.own hS277 he299 ho302; clear hS277
         refine l_step hE297 rfl (l_alloc (z := .agg #[.int .i64 0, .slice none 0 0]) (cs := #[.int .i64 0, .slice none 0 0]) hS298 hE297 (fun _ => by kernel_rfl) rfl rfl ?_)
         intro b303 w304 hS307 he308 a305 hE306; clear hS298 hE297
         refine l_step hE306 rfl (l_storeS (k := 0) (cs' := #[.int .i64 ((F_s_DrawAlgebraOfFrame code).1), .slice b300 (((F_s_DrawAlgebraOfFrame code).2).length) c301]) hS307 hE306 (by kernel_rfl) rfl rfl (by kernel_rfl) rfl rfl ?_)
         intro w310 hS313 a311 hE312; clear hS307 hE306
         refine c_nil ?_
         have hE315 := hE312.sub (L' := [(10, .pointer (some ⟨b303, 0, none⟩))]) ⟨rfl, trivial⟩; clear hE312
         refine p_tn ?_
         refine c_seq ?_
         refine c_reg ?_
         refine q_step (v := .agg #[.int .i64 ((F_s_DrawAlgebraOfFrame code).1), .slice b300 (((F_s_DrawAlgebraOfFrame code).2).length) c301]) hE315 (y_loadS Try.underlying30 rfl (by kernel_rfl) rfl (St.row (i := 0) hS313 rfl)) rfl rfl rfl ?_; intro a316 hE317; clear hE315
         refine l_step hE317 rfl (l_call (f := 70) (argv := [.agg #[.int .i64 ((F_s_DrawAlgebraOfFrame code).1), .slice b300 (((F_s_DrawAlgebraOfFrame code).2).length) c301]]) hE317 (fun _ => cf_AlgebraOfFrame _ _) rfl rfl (c_AlgebraOfFrame ((F_s_DrawAlgebraOfFrame code).1) b300 (((F_s_DrawAlgebraOfFrame code).2).length) c301 ((F_s_DrawAlgebraOfFrame code).2) w310 (St.rdO (i := 1) hS313 rfl)) ?_)
         rintro _ w319 ⟨b324, c325, rfl, ho326, he323⟩ a320 hE321; clear hE317
         have hf327 := AlgebraOfFrame_len ((F_s_DrawAlgebraOfFrame code).1) ((F_s_DrawAlgebraOfFrame code).2)
         have hS322 := St.own hS313 he323 ho326; clear hS313
         refine q_step (v := .tuple #[.agg #[.int .i64 (((F_AlgebraOfFrame ((F_s_DrawAlgebraOfFrame code).1) ((F_s_DrawAlgebraOfFrame code).2)).1).1), .slice b324 ((((F_AlgebraOfFrame ((F_s_DrawAlgebraOfFrame code).1) ((F_s_DrawAlgebraOfFrame code).2)).1).2).length) c325], .int .i64 ((F_AlgebraOfFrame ((F_s_DrawAlgebraOfFrame code).1) ((F_s_DrawAlgebraOfFrame code).2)).2)]) hE321 (y_move rfl) rfl rfl rfl ?_; intro a328 hE329; clear hE321
         refine q_step (v := .agg #[.int .i64 (((F_AlgebraOfFrame ((F_s_DrawAlgebraOfFrame code).1) ((F_s_DrawAlgebraOfFrame code).2)).1).1), .slice b324 ((((F_AlgebraOfFrame ((F_s_DrawAlgebraOfFrame code).1) ((F_s_DrawAlgebraOfFrame code).2)).1).2).length) c325]) hE329 (y_extract rfl rfl) rfl rfl rfl ?_; intro a330 hE331; clear hE329
         refine q_step (v := .int .i64 ((F_AlgebraOfFrame ((F_s_DrawAlgebraOfFrame code).1) ((F_s_DrawAlgebraOfFrame code).2)).2)) hE331 (y_extract rfl rfl) rfl rfl rfl ?_; intro a332 hE333; clear hE331
         refine l_step hE333 rfl (l_alloc (z := .agg #[.int .i64 0, .slice none 0 0]) (cs := #[.int .i64 0, .slice none 0 0]) hS322 hE333 (fun _ => by kernel_rfl) rfl rfl ?_)
         intro b334 w335 hS338 he339 a336 hE337; clear hS322 hE333
         refine l_step hE337 rfl (l_storeS (k := 0) (cs' := #[.int .i64 (((F_AlgebraOfFrame ((F_s_DrawAlgebraOfFrame code).1) ((F_s_DrawAlgebraOfFrame code).2)).1).1), .slice b324 ((((F_AlgebraOfFrame ((F_s_DrawAlgebraOfFrame code).1) ((F_s_DrawAlgebraOfFrame code).2)).1).2).length) c325]) hS338 hE337 (by kernel_rfl) rfl rfl (by kernel_rfl) rfl rfl ?_)
         intro w341 hS344 a342 hE343; clear hS338 hE337
         refine q_step (v := .int .i64 ((F_AlgebraOfFrame ((F_s_DrawAlgebraOfFrame code).1) ((F_s_DrawAlgebraOfFrame code).2)).2)) hE343 (y_assign rfl) rfl rfl rfl ?_; intro a346 hE347; clear hE343
         refine c_nil ?_
         have hE348 := hE347.sub (L' := [(10, .pointer (some ⟨b303, 0, none⟩)), (11, .pointer (some ⟨b334, 0, none⟩)), (12, .int .i64 ((F_AlgebraOfFrame ((F_s_DrawAlgebraOfFrame code).1) ((F_s_DrawAlgebraOfFrame code).2)).2))]) ⟨rfl, rfl, rfl, trivial⟩; clear hE347
         refine p_tn ?_
         refine c_seq ?_
         refine c_reg ?_
         refine q_step (v := .agg #[.int .i64 ((F_s_DrawAlgebraOfFrame code).1), .slice b300 (((F_s_DrawAlgebraOfFrame code).2).length) c301]) hE348 (y_loadS Try.underlying30 rfl (by kernel_rfl) rfl (St.row (i := 2) hS344 rfl)) rfl rfl rfl ?_; intro a349 hE350; clear hE348
         refine l_step hE350 rfl (l_call (f := 74) (argv := [.agg #[.int .i64 ((F_s_DrawAlgebraOfFrame code).1), .slice b300 (((F_s_DrawAlgebraOfFrame code).2).length) c301]]) hE350 (fun _ => cf_s_AlgebraOfFrame _ _) rfl rfl (c_s_AlgebraOfFrame ((F_s_DrawAlgebraOfFrame code).1) b300 (((F_s_DrawAlgebraOfFrame code).2).length) c301 ((F_s_DrawAlgebraOfFrame code).2) w341 (St.rdO (i := 3) hS344 rfl)) ?_)
         rintro _ w352 ⟨b357, c358, rfl, ho359, he356⟩ a353 hE354; clear hE350
         have hS355 := St.own hS344 he356 ho359; clear hS344
         refine q_step (v := .tuple #[.agg #[.int .i64 (((F_s_AlgebraOfFrame ((F_s_DrawAlgebraOfFrame code).1) ((F_s_DrawAlgebraOfFrame code).2)).1).1), .slice b357 ((((F_s_AlgebraOfFrame ((F_s_DrawAlgebraOfFrame code).1) ((F_s_DrawAlgebraOfFrame code).2)).1).2).length) c358], .int .i64 ((F_s_AlgebraOfFrame ((F_s_DrawAlgebraOfFrame code).1) ((F_s_DrawAlgebraOfFrame code).2)).2)]) hE354 (y_move rfl) rfl rfl rfl ?_; intro a360 hE361; clear hE354
         refine q_step (v := .agg #[.int .i64 (((F_s_AlgebraOfFrame ((F_s_DrawAlgebraOfFrame code).1) ((F_s_DrawAlgebraOfFrame code).2)).1).1), .slice b357 ((((F_s_AlgebraOfFrame ((F_s_DrawAlgebraOfFrame code).1) ((F_s_DrawAlgebraOfFrame code).2)).1).2).length) c358]) hE361 (y_extract rfl rfl) rfl rfl rfl ?_; intro a362 hE363; clear hE361
         refine q_step (v := .int .i64 ((F_s_AlgebraOfFrame ((F_s_DrawAlgebraOfFrame code).1) ((F_s_DrawAlgebraOfFrame code).2)).2)) hE363 (y_extract rfl rfl) rfl rfl rfl ?_; intro a364 hE365; clear hE363
         refine l_step hE365 rfl (l_alloc (z := .agg #[.int .i64 0, .slice none 0 0]) (cs := #[.int .i64 0, .slice none 0 0]) hS355 hE365 (fun _ => by kernel_rfl) rfl rfl ?_)
         intro b366 w367 hS370 he371 a368 hE369; clear hS355 hE365
         refine l_step hE369 rfl (l_storeS (k := 0) (cs' := #[.int .i64 (((F_s_AlgebraOfFrame ((F_s_DrawAlgebraOfFrame code).1) ((F_s_DrawAlgebraOfFrame code).2)).1).1), .slice b357 ((((F_s_AlgebraOfFrame ((F_s_DrawAlgebraOfFrame code).1) ((F_s_DrawAlgebraOfFrame code).2)).1).2).length) c358]) hS370 hE369 (by kernel_rfl) rfl rfl (by kernel_rfl) rfl rfl ?_)
         intro w373 hS376 a374 hE375; clear hS370 hE369
         refine q_step (v := .int .i64 ((F_s_AlgebraOfFrame ((F_s_DrawAlgebraOfFrame code).1) ((F_s_DrawAlgebraOfFrame code).2)).2)) hE375 (y_assign rfl) rfl rfl rfl ?_; intro a378 hE379; clear hE375
         refine c_nil ?_
         have hE380 := hE379.sub (L' := [(10, .pointer (some ⟨b303, 0, none⟩)), (11, .pointer (some ⟨b334, 0, none⟩)), (12, .int .i64 ((F_AlgebraOfFrame ((F_s_DrawAlgebraOfFrame code).1) ((F_s_DrawAlgebraOfFrame code).2)).2)), (13, .pointer (some ⟨b366, 0, none⟩)), (14, .int .i64 ((F_s_AlgebraOfFrame ((F_s_DrawAlgebraOfFrame code).1) ((F_s_DrawAlgebraOfFrame code).2)).2))]) ⟨rfl, rfl, rfl, rfl, rfl, trivial⟩; clear hE379
         refine p_tn ?_
         refine c_seq ?_
         refine c_seq ?_
         refine c_reg ?_
         refine q_step (v := .int .i64 ((F_AlgebraOfFrame ((F_s_DrawAlgebraOfFrame code).1) ((F_s_DrawAlgebraOfFrame code).2)).2)) hE380 (y_move rfl) rfl rfl rfl ?_; intro a381 hE382; clear hE380
         refine q_step (v := .int .i64 ((F_s_AlgebraOfFrame ((F_s_DrawAlgebraOfFrame code).1) ((F_s_DrawAlgebraOfFrame code).2)).2)) hE382 (y_move rfl) rfl rfl rfl ?_; intro a383 hE384; clear hE382
         refine q_step (v := .bool (!decide (((F_AlgebraOfFrame ((F_s_DrawAlgebraOfFrame code).1) ((F_s_DrawAlgebraOfFrame code).2)).2) = ((F_s_AlgebraOfFrame ((F_s_DrawAlgebraOfFrame code).1) ((F_s_DrawAlgebraOfFrame code).2)).2)))) hE384 (y_neq rfl rfl) rfl rfl rfl ?_; intro a385 hE386; clear hE384
         refine q_step (v := .bool (!decide (((F_AlgebraOfFrame ((F_s_DrawAlgebraOfFrame code).1) ((F_s_DrawAlgebraOfFrame code).2)).2) = ((F_s_AlgebraOfFrame ((F_s_DrawAlgebraOfFrame code).1) ((F_s_DrawAlgebraOfFrame code).2)).2)))) hE386 (y_move rfl) rfl rfl rfl ?_; intro a387 hE388; clear hE386
         rcases Bool.eq_false_or_eq_true (!decide (((F_AlgebraOfFrame ((F_s_DrawAlgebraOfFrame code).1) ((F_s_DrawAlgebraOfFrame code).2)).2) = ((F_s_AlgebraOfFrame ((F_s_DrawAlgebraOfFrame code).1) ((F_s_DrawAlgebraOfFrame code).2)).2))) with hb389 | hb389
         ·
          have hE390 := hE388; (try rw [hb389] at hE390); clear hE388
          have ht391 := bn_t hb389
          have hp392 := of_decide_eq_false ht391
          refine q_skip hE390 rfl rfl rfl ?_; intro a393 hE394; clear hE390
          refine q_skip hE394 rfl rfl rfl ?_; intro a395 hE396; clear hE394
          refine q_skip hE396 rfl rfl rfl ?_; intro a397 hE398; clear hE396
          refine q_skip hE398 rfl rfl rfl ?_; intro a399 hE400; clear hE398
          refine q_step (v := .bool true) hE400 (y_pick (b := true) rfl rfl) rfl rfl rfl ?_; intro a401 hE402; clear hE400
          refine c_nil ?_
          have hE403 := hE402.sub (L' := [(10, .pointer (some ⟨b303, 0, none⟩)), (12, .int .i64 ((F_AlgebraOfFrame ((F_s_DrawAlgebraOfFrame code).1) ((F_s_DrawAlgebraOfFrame code).2)).2)), (13, .pointer (some ⟨b366, 0, none⟩)), (80, .bool true)]) ⟨rfl, rfl, rfl, rfl, trivial⟩; clear hE402
          refine p_tn ?_
          refine c_true hE403 rfl ?_
          refine c_seq ?_
          refine c_reg ?_
          refine q_step (v := .bool false) hE403 (y_assign rfl) rfl rfl rfl ?_; intro a404 hE405; clear hE403
          refine c_nil ?_
          have hE406 := hE405.sub (L' := [(2, .bool false)]) ⟨rfl, trivial⟩; clear hE405
          refine p_tn ?_
          refine wp_ret ?_
          refine p_tr ?_
          have hF : F_l_FnModalDuality code = false := by unfold F_l_FnModalDuality; rw [hb389, ht284, hb254, hb207, ht165, ht152, hb116, ht13]; first | done | rfl
          refine c_ret1 hE406 rfl rfl ?_
          exact ⟨(by rw [hF]; first | done | (dsimp only; done) | rfl), hS376.ext⟩
         ·
          have hE407 := hE388; (try rw [hb389] at hE407); clear hE388
          have ht408 := bn_f hb389
          have hp409 := of_decide_eq_true ht408
          refine q_step (v := .agg #[.int .i64 (((F_AlgebraOfFrame ((F_s_DrawAlgebraOfFrame code).1) ((F_s_DrawAlgebraOfFrame code).2)).1).1), .slice b324 ((((F_AlgebraOfFrame ((F_s_DrawAlgebraOfFrame code).1) ((F_s_DrawAlgebraOfFrame code).2)).1).2).length) c325]) hE407 (y_loadS Try.underlying79 rfl (by kernel_rfl) rfl (St.row (i := 2) hS376 rfl)) rfl rfl rfl ?_; intro a410 hE411; clear hE407
          refine q_step (v := .agg #[.int .i64 (((F_s_AlgebraOfFrame ((F_s_DrawAlgebraOfFrame code).1) ((F_s_DrawAlgebraOfFrame code).2)).1).1), .slice b357 ((((F_s_AlgebraOfFrame ((F_s_DrawAlgebraOfFrame code).1) ((F_s_DrawAlgebraOfFrame code).2)).1).2).length) c358]) hE411 (y_loadS Try.underlying79 rfl (by kernel_rfl) rfl (St.row (i := 0) hS376 rfl)) rfl rfl rfl ?_; intro a412 hE413; clear hE411
          refine l_step hE413 rfl (l_call (f := 71) (argv := [.agg #[.int .i64 (((F_AlgebraOfFrame ((F_s_DrawAlgebraOfFrame code).1) ((F_s_DrawAlgebraOfFrame code).2)).1).1), .slice b324 ((((F_AlgebraOfFrame ((F_s_DrawAlgebraOfFrame code).1) ((F_s_DrawAlgebraOfFrame code).2)).1).2).length) c325], .agg #[.int .i64 (((F_s_AlgebraOfFrame ((F_s_DrawAlgebraOfFrame code).1) ((F_s_DrawAlgebraOfFrame code).2)).1).1), .slice b357 ((((F_s_AlgebraOfFrame ((F_s_DrawAlgebraOfFrame code).1) ((F_s_DrawAlgebraOfFrame code).2)).1).2).length) c358]]) hE413 (fun _ => cf_l_likeAlgebra5 _ _) rfl rfl (c_l_likeAlgebra5 (((F_AlgebraOfFrame ((F_s_DrawAlgebraOfFrame code).1) ((F_s_DrawAlgebraOfFrame code).2)).1).1) b324 ((((F_AlgebraOfFrame ((F_s_DrawAlgebraOfFrame code).1) ((F_s_DrawAlgebraOfFrame code).2)).1).2).length) c325 (((F_AlgebraOfFrame ((F_s_DrawAlgebraOfFrame code).1) ((F_s_DrawAlgebraOfFrame code).2)).1).2) (((F_s_AlgebraOfFrame ((F_s_DrawAlgebraOfFrame code).1) ((F_s_DrawAlgebraOfFrame code).2)).1).1) b357 ((((F_s_AlgebraOfFrame ((F_s_DrawAlgebraOfFrame code).1) ((F_s_DrawAlgebraOfFrame code).2)).1).2).length) c358 (((F_s_AlgebraOfFrame ((F_s_DrawAlgebraOfFrame code).1) ((F_s_DrawAlgebraOfFrame code).2)).1).2) w373 (St.rdO (i := 3) hS376 rfl) (St.rdO (i := 1) hS376 rfl)) ?_)
          rintro _ w415 ⟨rfl, he419⟩ a416 hE417; clear hE413
          have hS418 := St.go hS376 he419; clear hS376
          refine q_step (v := .bool (!(F_l_likeAlgebra5 (((F_AlgebraOfFrame ((F_s_DrawAlgebraOfFrame code).1) ((F_s_DrawAlgebraOfFrame code).2)).1).1) (((F_AlgebraOfFrame ((F_s_DrawAlgebraOfFrame code).1) ((F_s_DrawAlgebraOfFrame code).2)).1).2) (((F_s_AlgebraOfFrame ((F_s_DrawAlgebraOfFrame code).1) ((F_s_DrawAlgebraOfFrame code).2)).1).1) (((F_s_AlgebraOfFrame ((F_s_DrawAlgebraOfFrame code).1) ((F_s_DrawAlgebraOfFrame code).2)).1).2)))) hE417 (y_not rfl) rfl rfl rfl ?_; intro a420 hE421; clear hE417
          refine q_step (v := .bool (!(F_l_likeAlgebra5 (((F_AlgebraOfFrame ((F_s_DrawAlgebraOfFrame code).1) ((F_s_DrawAlgebraOfFrame code).2)).1).1) (((F_AlgebraOfFrame ((F_s_DrawAlgebraOfFrame code).1) ((F_s_DrawAlgebraOfFrame code).2)).1).2) (((F_s_AlgebraOfFrame ((F_s_DrawAlgebraOfFrame code).1) ((F_s_DrawAlgebraOfFrame code).2)).1).1) (((F_s_AlgebraOfFrame ((F_s_DrawAlgebraOfFrame code).1) ((F_s_DrawAlgebraOfFrame code).2)).1).2)))) hE421 (y_pick (b := false) rfl rfl) rfl rfl rfl ?_; intro a422 hE423; clear hE421
          refine c_nil ?_
          have hE424 := hE423.sub (L' := [(10, .pointer (some ⟨b303, 0, none⟩)), (12, .int .i64 ((F_AlgebraOfFrame ((F_s_DrawAlgebraOfFrame code).1) ((F_s_DrawAlgebraOfFrame code).2)).2)), (13, .pointer (some ⟨b366, 0, none⟩)), (80, .bool (!(F_l_likeAlgebra5 (((F_AlgebraOfFrame ((F_s_DrawAlgebraOfFrame code).1) ((F_s_DrawAlgebraOfFrame code).2)).1).1) (((F_AlgebraOfFrame ((F_s_DrawAlgebraOfFrame code).1) ((F_s_DrawAlgebraOfFrame code).2)).1).2) (((F_s_AlgebraOfFrame ((F_s_DrawAlgebraOfFrame code).1) ((F_s_DrawAlgebraOfFrame code).2)).1).1) (((F_s_AlgebraOfFrame ((F_s_DrawAlgebraOfFrame code).1) ((F_s_DrawAlgebraOfFrame code).2)).1).2))))]) ⟨rfl, rfl, rfl, rfl, trivial⟩; clear hE423
          refine p_tn ?_
          refine c_cond hE424 rfl (fun ht425 => ?_) (fun ht425 => ?_)
          ·
           have ht426 := bn_t ht425
           have hE427 := hE424; rw [ht425] at hE427; clear hE424
           refine c_seq ?_
           refine c_reg ?_
           refine q_step (v := .bool false) hE427 (y_assign rfl) rfl rfl rfl ?_; intro a428 hE429; clear hE427
           refine c_nil ?_
           have hE430 := hE429.sub (L' := [(2, .bool false)]) ⟨rfl, trivial⟩; clear hE429
           refine p_tn ?_
           refine wp_ret ?_
           refine p_tr ?_
           have hF : F_l_FnModalDuality code = false := by unfold F_l_FnModalDuality; rw [ht425, hb389, ht284, hb254, hb207, ht165, ht152, hb116, ht13]; first | done | rfl
           refine c_ret1 hE430 rfl rfl ?_
           exact ⟨(by rw [hF]; first | done | (dsimp only; done) | rfl), hS418.ext⟩
          ·
           have ht431 := bn_f ht425
           have hE432 := hE424; rw [ht425] at hE432; clear hE424
           refine wp_skip ?_
           refine p_tn ?_
           refine c_seq ?_
           refine c_seq ?_
           refine c_reg ?_
           refine q_step (v := .int .i64 ((F_AlgebraOfFrame ((F_s_DrawAlgebraOfFrame code).1) ((F_s_DrawAlgebraOfFrame code).2)).2)) hE432 (y_move rfl) rfl rfl rfl ?_; intro a433 hE434; clear hE432
           refine q_step (v := .bool (!decide (((F_AlgebraOfFrame ((F_s_DrawAlgebraOfFrame code).1) ((F_s_DrawAlgebraOfFrame code).2)).2) = 0))) hE434 (y_neq rfl rfl) rfl rfl rfl ?_; intro a435 hE436; clear hE434
           refine c_nil ?_
           have hE437 := hE436.sub (L' := [(10, .pointer (some ⟨b303, 0, none⟩)), (13, .pointer (some ⟨b366, 0, none⟩)), (82, .bool (!decide (((F_AlgebraOfFrame ((F_s_DrawAlgebraOfFrame code).1) ((F_s_DrawAlgebraOfFrame code).2)).2) = 0)))]) ⟨rfl, rfl, rfl, trivial⟩; clear hE436
           refine p_tn ?_
           refine c_cond hE437 rfl (fun ht438 => ?_) (fun ht438 => ?_)
           ·
            have ht439 := bn_t ht438
            have hp440 := of_decide_eq_false ht439
            have hE441 := hE437; rw [ht438] at hE441; clear hE437
            refine c_seq ?_
            refine c_reg ?_
            refine q_step (v := .bool true) hE441 (y_assign rfl) rfl rfl rfl ?_; intro a442 hE443; clear hE441
            refine c_nil ?_
            have hE444 := hE443.sub (L' := [(2, .bool true)]) ⟨rfl, trivial⟩; clear hE443
            refine p_tn ?_
            refine wp_ret ?_
            refine p_tr ?_
            have hF : F_l_FnModalDuality code = true := by unfold F_l_FnModalDuality; rw [ht438, ht425, hb389, ht284, hb254, hb207, ht165, ht152, hb116, ht13]; first | done | rfl
            refine c_ret1 hE444 rfl rfl ?_
            exact ⟨(by rw [hF]; first | done | (dsimp only; done) | rfl), hS418.ext⟩
           ·
            have ht445 := bn_f ht438
            have hp446 := of_decide_eq_true ht445
            have hE447 := hE437; rw [ht438] at hE447; clear hE437
            refine wp_skip ?_
            refine p_tn ?_
            refine c_seq ?_
            refine c_reg ?_
            refine q_step (v := .agg #[.int .i64 (((F_s_AlgebraOfFrame ((F_s_DrawAlgebraOfFrame code).1) ((F_s_DrawAlgebraOfFrame code).2)).1).1), .slice b357 ((((F_s_AlgebraOfFrame ((F_s_DrawAlgebraOfFrame code).1) ((F_s_DrawAlgebraOfFrame code).2)).1).2).length) c358]) hE447 (y_loadS Try.underlying79 rfl (by kernel_rfl) rfl (St.row (i := 0) hS418 rfl)) rfl rfl rfl ?_; intro a448 hE449; clear hE447
            refine l_step hE449 rfl (l_call (f := 68) (argv := [.agg #[.int .i64 (((F_s_AlgebraOfFrame ((F_s_DrawAlgebraOfFrame code).1) ((F_s_DrawAlgebraOfFrame code).2)).1).1), .slice b357 ((((F_s_AlgebraOfFrame ((F_s_DrawAlgebraOfFrame code).1) ((F_s_DrawAlgebraOfFrame code).2)).1).2).length) c358]]) hE449 (fun _ => cf_FrameOfAlgebra _ _) rfl rfl (c_FrameOfAlgebra (((F_s_AlgebraOfFrame ((F_s_DrawAlgebraOfFrame code).1) ((F_s_DrawAlgebraOfFrame code).2)).1).1) b357 ((((F_s_AlgebraOfFrame ((F_s_DrawAlgebraOfFrame code).1) ((F_s_DrawAlgebraOfFrame code).2)).1).2).length) c358 (((F_s_AlgebraOfFrame ((F_s_DrawAlgebraOfFrame code).1) ((F_s_DrawAlgebraOfFrame code).2)).1).2) w415 (St.rdO (i := 1) hS418 rfl)) ?_)
            rintro _ w451 ⟨b456, c457, rfl, ho458, he455⟩ a452 hE453; clear hE449
            have hf459 := FrameOfAlgebra_len (((F_s_AlgebraOfFrame ((F_s_DrawAlgebraOfFrame code).1) ((F_s_DrawAlgebraOfFrame code).2)).1).1) (((F_s_AlgebraOfFrame ((F_s_DrawAlgebraOfFrame code).1) ((F_s_DrawAlgebraOfFrame code).2)).1).2)
            have hS454 := St.own hS418 he455 ho458; clear hS418
            refine q_step (v := .tuple #[.agg #[.int .i64 (((F_FrameOfAlgebra (((F_s_AlgebraOfFrame ((F_s_DrawAlgebraOfFrame code).1) ((F_s_DrawAlgebraOfFrame code).2)).1).1) (((F_s_AlgebraOfFrame ((F_s_DrawAlgebraOfFrame code).1) ((F_s_DrawAlgebraOfFrame code).2)).1).2)).1).1), .slice b456 ((((F_FrameOfAlgebra (((F_s_AlgebraOfFrame ((F_s_DrawAlgebraOfFrame code).1) ((F_s_DrawAlgebraOfFrame code).2)).1).1) (((F_s_AlgebraOfFrame ((F_s_DrawAlgebraOfFrame code).1) ((F_s_DrawAlgebraOfFrame code).2)).1).2)).1).2).length) c457], .int .i64 ((F_FrameOfAlgebra (((F_s_AlgebraOfFrame ((F_s_DrawAlgebraOfFrame code).1) ((F_s_DrawAlgebraOfFrame code).2)).1).1) (((F_s_AlgebraOfFrame ((F_s_DrawAlgebraOfFrame code).1) ((F_s_DrawAlgebraOfFrame code).2)).1).2)).2)]) hE453 (y_move rfl) rfl rfl rfl ?_; intro a460 hE461; clear hE453
            refine q_step (v := .agg #[.int .i64 (((F_FrameOfAlgebra (((F_s_AlgebraOfFrame ((F_s_DrawAlgebraOfFrame code).1) ((F_s_DrawAlgebraOfFrame code).2)).1).1) (((F_s_AlgebraOfFrame ((F_s_DrawAlgebraOfFrame code).1) ((F_s_DrawAlgebraOfFrame code).2)).1).2)).1).1), .slice b456 ((((F_FrameOfAlgebra (((F_s_AlgebraOfFrame ((F_s_DrawAlgebraOfFrame code).1) ((F_s_DrawAlgebraOfFrame code).2)).1).1) (((F_s_AlgebraOfFrame ((F_s_DrawAlgebraOfFrame code).1) ((F_s_DrawAlgebraOfFrame code).2)).1).2)).1).2).length) c457]) hE461 (y_extract rfl rfl) rfl rfl rfl ?_; intro a462 hE463; clear hE461
            refine q_step (v := .int .i64 ((F_FrameOfAlgebra (((F_s_AlgebraOfFrame ((F_s_DrawAlgebraOfFrame code).1) ((F_s_DrawAlgebraOfFrame code).2)).1).1) (((F_s_AlgebraOfFrame ((F_s_DrawAlgebraOfFrame code).1) ((F_s_DrawAlgebraOfFrame code).2)).1).2)).2)) hE463 (y_extract rfl rfl) rfl rfl rfl ?_; intro a464 hE465; clear hE463
            refine l_step hE465 rfl (l_alloc (z := .agg #[.int .i64 0, .slice none 0 0]) (cs := #[.int .i64 0, .slice none 0 0]) hS454 hE465 (fun _ => by kernel_rfl) rfl rfl ?_)
            intro b466 w467 hS470 he471 a468 hE469; clear hS454 hE465
            refine l_step hE469 rfl (l_storeS (k := 0) (cs' := #[.int .i64 (((F_FrameOfAlgebra (((F_s_AlgebraOfFrame ((F_s_DrawAlgebraOfFrame code).1) ((F_s_DrawAlgebraOfFrame code).2)).1).1) (((F_s_AlgebraOfFrame ((F_s_DrawAlgebraOfFrame code).1) ((F_s_DrawAlgebraOfFrame code).2)).1).2)).1).1), .slice b456 ((((F_FrameOfAlgebra (((F_s_AlgebraOfFrame ((F_s_DrawAlgebraOfFrame code).1) ((F_s_DrawAlgebraOfFrame code).2)).1).1) (((F_s_AlgebraOfFrame ((F_s_DrawAlgebraOfFrame code).1) ((F_s_DrawAlgebraOfFrame code).2)).1).2)).1).2).length) c457]) hS470 hE469 (by kernel_rfl) rfl rfl (by kernel_rfl) rfl rfl ?_)
            intro w473 hS476 a474 hE475; clear hS470 hE469
            refine q_step (v := .int .i64 ((F_FrameOfAlgebra (((F_s_AlgebraOfFrame ((F_s_DrawAlgebraOfFrame code).1) ((F_s_DrawAlgebraOfFrame code).2)).1).1) (((F_s_AlgebraOfFrame ((F_s_DrawAlgebraOfFrame code).1) ((F_s_DrawAlgebraOfFrame code).2)).1).2)).2)) hE475 (y_assign rfl) rfl rfl rfl ?_; intro a478 hE479; clear hE475
            refine c_nil ?_
            have hE480 := hE479.sub (L' := [(10, .pointer (some ⟨b303, 0, none⟩)), (15, .pointer (some ⟨b466, 0, none⟩)), (16, .int .i64 ((F_FrameOfAlgebra (((F_s_AlgebraOfFrame ((F_s_DrawAlgebraOfFrame code).1) ((F_s_DrawAlgebraOfFrame code).2)).1).1) (((F_s_AlgebraOfFrame ((F_s_DrawAlgebraOfFrame code).1) ((F_s_DrawAlgebraOfFrame code).2)).1).2)).2))]) ⟨rfl, rfl, rfl, trivial⟩; clear hE479
            refine p_tn ?_
            refine c_seq ?_
            refine c_reg ?_
            refine q_step (v := .int .i64 ((F_FrameOfAlgebra (((F_s_AlgebraOfFrame ((F_s_DrawAlgebraOfFrame code).1) ((F_s_DrawAlgebraOfFrame code).2)).1).1) (((F_s_AlgebraOfFrame ((F_s_DrawAlgebraOfFrame code).1) ((F_s_DrawAlgebraOfFrame code).2)).1).2)).2)) hE480 (y_move rfl) rfl rfl rfl ?_; intro a481 hE482; clear hE480
            refine q_step (v := .bool (decide (((F_FrameOfAlgebra (((F_s_AlgebraOfFrame ((F_s_DrawAlgebraOfFrame code).1) ((F_s_DrawAlgebraOfFrame code).2)).1).1) (((F_s_AlgebraOfFrame ((F_s_DrawAlgebraOfFrame code).1) ((F_s_DrawAlgebraOfFrame code).2)).1).2)).2) = 0))) hE482 (y_eql rfl rfl) rfl rfl rfl ?_; intro a483 hE484; clear hE482
            refine q_step (v := .bool (decide (((F_FrameOfAlgebra (((F_s_AlgebraOfFrame ((F_s_DrawAlgebraOfFrame code).1) ((F_s_DrawAlgebraOfFrame code).2)).1).1) (((F_s_AlgebraOfFrame ((F_s_DrawAlgebraOfFrame code).1) ((F_s_DrawAlgebraOfFrame code).2)).1).2)).2) = 0))) hE484 (y_move rfl) rfl rfl rfl ?_; intro a485 hE486; clear hE484
            rcases Bool.eq_false_or_eq_true (decide (((F_FrameOfAlgebra (((F_s_AlgebraOfFrame ((F_s_DrawAlgebraOfFrame code).1) ((F_s_DrawAlgebraOfFrame code).2)).1).1) (((F_s_AlgebraOfFrame ((F_s_DrawAlgebraOfFrame code).1) ((F_s_DrawAlgebraOfFrame code).2)).1).2)).2) = 0)) with hb487 | hb487
            ·
             have hE488 := hE486; (try rw [hb487] at hE488); clear hE486
             have hp489 := of_decide_eq_true hb487
             refine q_step (v := .agg #[.int .i64 (((F_FrameOfAlgebra (((F_s_AlgebraOfFrame ((F_s_DrawAlgebraOfFrame code).1) ((F_s_DrawAlgebraOfFrame code).2)).1).1) (((F_s_AlgebraOfFrame ((F_s_DrawAlgebraOfFrame code).1) ((F_s_DrawAlgebraOfFrame code).2)).1).2)).1).1), .slice b456 ((((F_FrameOfAlgebra (((F_s_AlgebraOfFrame ((F_s_DrawAlgebraOfFrame code).1) ((F_s_DrawAlgebraOfFrame code).2)).1).1) (((F_s_AlgebraOfFrame ((F_s_DrawAlgebraOfFrame code).1) ((F_s_DrawAlgebraOfFrame code).2)).1).2)).1).2).length) c457]) hE488 (y_loadS Try.underlying30 rfl (by kernel_rfl) rfl (St.row (i := 0) hS476 rfl)) rfl rfl rfl ?_; intro a490 hE491; clear hE488
             refine q_step (v := .agg #[.int .i64 ((F_s_DrawAlgebraOfFrame code).1), .slice b300 (((F_s_DrawAlgebraOfFrame code).2).length) c301]) hE491 (y_loadS Try.underlying30 rfl (by kernel_rfl) rfl (St.row (i := 6) hS476 rfl)) rfl rfl rfl ?_; intro a492 hE493; clear hE491
             refine l_step hE493 rfl (l_call (f := 55) (argv := [.agg #[.int .i64 (((F_FrameOfAlgebra (((F_s_AlgebraOfFrame ((F_s_DrawAlgebraOfFrame code).1) ((F_s_DrawAlgebraOfFrame code).2)).1).1) (((F_s_AlgebraOfFrame ((F_s_DrawAlgebraOfFrame code).1) ((F_s_DrawAlgebraOfFrame code).2)).1).2)).1).1), .slice b456 ((((F_FrameOfAlgebra (((F_s_AlgebraOfFrame ((F_s_DrawAlgebraOfFrame code).1) ((F_s_DrawAlgebraOfFrame code).2)).1).1) (((F_s_AlgebraOfFrame ((F_s_DrawAlgebraOfFrame code).1) ((F_s_DrawAlgebraOfFrame code).2)).1).2)).1).2).length) c457], .agg #[.int .i64 ((F_s_DrawAlgebraOfFrame code).1), .slice b300 (((F_s_DrawAlgebraOfFrame code).2).length) c301]]) hE493 (fun _ => cf_l_likeFrame5 _ _) rfl rfl (c_l_likeFrame5 (((F_FrameOfAlgebra (((F_s_AlgebraOfFrame ((F_s_DrawAlgebraOfFrame code).1) ((F_s_DrawAlgebraOfFrame code).2)).1).1) (((F_s_AlgebraOfFrame ((F_s_DrawAlgebraOfFrame code).1) ((F_s_DrawAlgebraOfFrame code).2)).1).2)).1).1) b456 ((((F_FrameOfAlgebra (((F_s_AlgebraOfFrame ((F_s_DrawAlgebraOfFrame code).1) ((F_s_DrawAlgebraOfFrame code).2)).1).1) (((F_s_AlgebraOfFrame ((F_s_DrawAlgebraOfFrame code).1) ((F_s_DrawAlgebraOfFrame code).2)).1).2)).1).2).length) c457 (((F_FrameOfAlgebra (((F_s_AlgebraOfFrame ((F_s_DrawAlgebraOfFrame code).1) ((F_s_DrawAlgebraOfFrame code).2)).1).1) (((F_s_AlgebraOfFrame ((F_s_DrawAlgebraOfFrame code).1) ((F_s_DrawAlgebraOfFrame code).2)).1).2)).1).2) ((F_s_DrawAlgebraOfFrame code).1) b300 (((F_s_DrawAlgebraOfFrame code).2).length) c301 ((F_s_DrawAlgebraOfFrame code).2) w473 (St.rdO (i := 1) hS476 rfl) (St.rdO (i := 7) hS476 rfl)) ?_)
             rintro _ w495 ⟨rfl, he499⟩ a496 hE497; clear hE493
             have hS498 := St.go hS476 he499; clear hS476
             refine q_step (v := .bool (F_l_likeFrame5 (((F_FrameOfAlgebra (((F_s_AlgebraOfFrame ((F_s_DrawAlgebraOfFrame code).1) ((F_s_DrawAlgebraOfFrame code).2)).1).1) (((F_s_AlgebraOfFrame ((F_s_DrawAlgebraOfFrame code).1) ((F_s_DrawAlgebraOfFrame code).2)).1).2)).1).1) (((F_FrameOfAlgebra (((F_s_AlgebraOfFrame ((F_s_DrawAlgebraOfFrame code).1) ((F_s_DrawAlgebraOfFrame code).2)).1).1) (((F_s_AlgebraOfFrame ((F_s_DrawAlgebraOfFrame code).1) ((F_s_DrawAlgebraOfFrame code).2)).1).2)).1).2) ((F_s_DrawAlgebraOfFrame code).1) ((F_s_DrawAlgebraOfFrame code).2))) hE497 (y_pick (b := true) rfl rfl) rfl rfl rfl ?_; intro a500 hE501; clear hE497
             refine q_step (v := .bool (F_l_likeFrame5 (((F_FrameOfAlgebra (((F_s_AlgebraOfFrame ((F_s_DrawAlgebraOfFrame code).1) ((F_s_DrawAlgebraOfFrame code).2)).1).1) (((F_s_AlgebraOfFrame ((F_s_DrawAlgebraOfFrame code).1) ((F_s_DrawAlgebraOfFrame code).2)).1).2)).1).1) (((F_FrameOfAlgebra (((F_s_AlgebraOfFrame ((F_s_DrawAlgebraOfFrame code).1) ((F_s_DrawAlgebraOfFrame code).2)).1).1) (((F_s_AlgebraOfFrame ((F_s_DrawAlgebraOfFrame code).1) ((F_s_DrawAlgebraOfFrame code).2)).1).2)).1).2) ((F_s_DrawAlgebraOfFrame code).1) ((F_s_DrawAlgebraOfFrame code).2))) hE501 (y_assign rfl) rfl rfl rfl ?_; intro a502 hE503; clear hE501
             refine c_nil ?_
             have hE504 := hE503.sub (L' := [(2, .bool (F_l_likeFrame5 (((F_FrameOfAlgebra (((F_s_AlgebraOfFrame ((F_s_DrawAlgebraOfFrame code).1) ((F_s_DrawAlgebraOfFrame code).2)).1).1) (((F_s_AlgebraOfFrame ((F_s_DrawAlgebraOfFrame code).1) ((F_s_DrawAlgebraOfFrame code).2)).1).2)).1).1) (((F_FrameOfAlgebra (((F_s_AlgebraOfFrame ((F_s_DrawAlgebraOfFrame code).1) ((F_s_DrawAlgebraOfFrame code).2)).1).1) (((F_s_AlgebraOfFrame ((F_s_DrawAlgebraOfFrame code).1) ((F_s_DrawAlgebraOfFrame code).2)).1).2)).1).2) ((F_s_DrawAlgebraOfFrame code).1) ((F_s_DrawAlgebraOfFrame code).2)))]) ⟨rfl, trivial⟩; clear hE503
             refine p_tn ?_
             refine wp_ret ?_
             have hF : F_l_FnModalDuality code = F_l_likeFrame5 (((F_FrameOfAlgebra (((F_s_AlgebraOfFrame ((F_s_DrawAlgebraOfFrame code).1) ((F_s_DrawAlgebraOfFrame code).2)).1).1) (((F_s_AlgebraOfFrame ((F_s_DrawAlgebraOfFrame code).1) ((F_s_DrawAlgebraOfFrame code).2)).1).2)).1).1) (((F_FrameOfAlgebra (((F_s_AlgebraOfFrame ((F_s_DrawAlgebraOfFrame code).1) ((F_s_DrawAlgebraOfFrame code).2)).1).1) (((F_s_AlgebraOfFrame ((F_s_DrawAlgebraOfFrame code).1) ((F_s_DrawAlgebraOfFrame code).2)).1).2)).1).2) ((F_s_DrawAlgebraOfFrame code).1) ((F_s_DrawAlgebraOfFrame code).2) := by unfold F_l_FnModalDuality; rw [hb487, ht438, ht425, hb389, ht284, hb254, hb207, ht165, ht152, hb116, ht13]; first | done | rfl
             refine c_ret1 hE504 rfl rfl ?_
             exact ⟨(by rw [hF]; first | done | (dsimp only; done) | rfl), hS498.ext⟩
            ·
             have hE505 := hE486; (try rw [hb487] at hE505); clear hE486
             have hp506 := of_decide_eq_false hb487
             refine q_skip hE505 rfl rfl rfl ?_; intro a507 hE508; clear hE505
             refine q_skip hE508 rfl rfl rfl ?_; intro a509 hE510; clear hE508
             refine q_skip hE510 rfl rfl rfl ?_; intro a511 hE512; clear hE510
             refine q_step (v := .bool false) hE512 (y_pick (b := false) rfl rfl) rfl rfl rfl ?_; intro a513 hE514; clear hE512
             refine q_step (v := .bool false) hE514 (y_assign rfl) rfl rfl rfl ?_; intro a515 hE516; clear hE514
             refine c_nil ?_
             have hE517 := hE516.sub (L' := [(2, .bool false)]) ⟨rfl, trivial⟩; clear hE516
             refine p_tn ?_
             refine wp_ret ?_
             have hF : F_l_FnModalDuality code = false := by unfold F_l_FnModalDuality; rw [hb487, ht438, ht425, hb389, ht284, hb254, hb207, ht165, ht152, hb116, ht13]; first | done | rfl
             refine c_ret1 hE517 rfl rfl ?_
             exact ⟨(by rw [hF]; first | done | (dsimp only; done) | rfl), hS476.ext⟩
     ·
      have hp518 := of_decide_eq_false ht165
      have hE519 := hE164; rw [ht165] at hE519; clear hE164
      refine wp_skip ?_
      refine p_tn ?_
      refine c_seq ?_
      refine c_reg ?_
      refine q_step (v := .slice codeA code.length codeC) hE519 (y_move rfl) rfl rfl rfl ?_; intro a520 hE521; clear hE519
      refine l_step hE521 rfl (l_call (f := 73) (argv := [.slice codeA code.length codeC]) hE521 (fun _ => cf_s_DrawAlgebraOfFrame _ _) rfl rfl (c_s_DrawAlgebraOfFrame codeA code.length codeC code w142 (codeR.ext hS145.ext)) ?_)
      rintro _ w523 ⟨b528, c529, rfl, ho530, he527⟩ a524 hE525; clear hE521
      have hS526 := St.own hS145 he527 ho530; clear hS145
      refine l_step hE525 rfl (l_alloc (z := .agg #[.int .i64 0, .slice none 0 0]) (cs := #[.int .i64 0, .slice none 0 0]) hS526 hE525 (fun _ => by kernel_rfl) rfl rfl ?_)
      intro b531 w532 hS535 he536 a533 hE534; clear hS526 hE525
      refine l_step hE534 rfl (l_storeS (k := 0) (cs' := #[.int .i64 ((F_s_DrawAlgebraOfFrame code).1), .slice b528 (((F_s_DrawAlgebraOfFrame code).2).length) c529]) hS535 hE534 (by kernel_rfl) rfl rfl (by kernel_rfl) rfl rfl ?_)
      intro w538 hS541 a539 hE540; clear hS535 hE534
      refine c_nil ?_
      have hE543 := hE540.sub (L' := [(10, .pointer (some ⟨b531, 0, none⟩))]) ⟨rfl, trivial⟩; clear hE540
      refine p_tn ?_
      refine c_seq ?_
      refine c_reg ?_
      refine q_step (v := .agg #[.int .i64 ((F_s_DrawAlgebraOfFrame code).1), .slice b528 (((F_s_DrawAlgebraOfFrame code).2).length) c529]) hE543 (y_loadS Try.underlying30 rfl (by kernel_rfl) rfl (St.row (i := 0) hS541 rfl)) rfl rfl rfl ?_; intro a544 hE545; clear hE543
      refine l_step hE545 rfl (l_call (f := 70) (argv := [.agg #[.int .i64 ((F_s_DrawAlgebraOfFrame code).1), .slice b528 (((F_s_DrawAlgebraOfFrame code).2).length) c529]]) hE545 (fun _ => cf_AlgebraOfFrame _ _) rfl rfl (c_AlgebraOfFrame ((F_s_DrawAlgebraOfFrame code).1) b528 (((F_s_DrawAlgebraOfFrame code).2).length) c529 ((F_s_DrawAlgebraOfFrame code).2) w538 (St.rdO (i := 1) hS541 rfl)) ?_)
      rintro _ w547 ⟨b552, c553, rfl, ho554, he551⟩ a548 hE549; clear hE545
      have hf555 := AlgebraOfFrame_len ((F_s_DrawAlgebraOfFrame code).1) ((F_s_DrawAlgebraOfFrame code).2)
      have hS550 := St.own hS541 he551 ho554; clear hS541
      refine q_step (v := .tuple #[.agg #[.int .i64 (((F_AlgebraOfFrame ((F_s_DrawAlgebraOfFrame code).1) ((F_s_DrawAlgebraOfFrame code).2)).1).1), .slice b552 ((((F_AlgebraOfFrame ((F_s_DrawAlgebraOfFrame code).1) ((F_s_DrawAlgebraOfFrame code).2)).1).2).length) c553], .int .i64 ((F_AlgebraOfFrame ((F_s_DrawAlgebraOfFrame code).1) ((F_s_DrawAlgebraOfFrame code).2)).2)]) hE549 (y_move rfl) rfl rfl rfl ?_; intro a556 hE557; clear hE549
      refine q_step (v := .agg #[.int .i64 (((F_AlgebraOfFrame ((F_s_DrawAlgebraOfFrame code).1) ((F_s_DrawAlgebraOfFrame code).2)).1).1), .slice b552 ((((F_AlgebraOfFrame ((F_s_DrawAlgebraOfFrame code).1) ((F_s_DrawAlgebraOfFrame code).2)).1).2).length) c553]) hE557 (y_extract rfl rfl) rfl rfl rfl ?_; intro a558 hE559; clear hE557
      refine q_step (v := .int .i64 ((F_AlgebraOfFrame ((F_s_DrawAlgebraOfFrame code).1) ((F_s_DrawAlgebraOfFrame code).2)).2)) hE559 (y_extract rfl rfl) rfl rfl rfl ?_; intro a560 hE561; clear hE559
      refine l_step hE561 rfl (l_alloc (z := .agg #[.int .i64 0, .slice none 0 0]) (cs := #[.int .i64 0, .slice none 0 0]) hS550 hE561 (fun _ => by kernel_rfl) rfl rfl ?_)
      intro b562 w563 hS566 he567 a564 hE565; clear hS550 hE561
      refine l_step hE565 rfl (l_storeS (k := 0) (cs' := #[.int .i64 (((F_AlgebraOfFrame ((F_s_DrawAlgebraOfFrame code).1) ((F_s_DrawAlgebraOfFrame code).2)).1).1), .slice b552 ((((F_AlgebraOfFrame ((F_s_DrawAlgebraOfFrame code).1) ((F_s_DrawAlgebraOfFrame code).2)).1).2).length) c553]) hS566 hE565 (by kernel_rfl) rfl rfl (by kernel_rfl) rfl rfl ?_)
      intro w569 hS572 a570 hE571; clear hS566 hE565
      refine q_step (v := .int .i64 ((F_AlgebraOfFrame ((F_s_DrawAlgebraOfFrame code).1) ((F_s_DrawAlgebraOfFrame code).2)).2)) hE571 (y_assign rfl) rfl rfl rfl ?_; intro a574 hE575; clear hE571
      refine c_nil ?_
      have hE576 := hE575.sub (L' := [(10, .pointer (some ⟨b531, 0, none⟩)), (11, .pointer (some ⟨b562, 0, none⟩)), (12, .int .i64 ((F_AlgebraOfFrame ((F_s_DrawAlgebraOfFrame code).1) ((F_s_DrawAlgebraOfFrame code).2)).2))]) ⟨rfl, rfl, rfl, trivial⟩; clear hE575
      refine p_tn ?_
      refine c_seq ?_
      refine c_reg ?_
      refine q_step (v := .agg #[.int .i64 ((F_s_DrawAlgebraOfFrame code).1), .slice b528 (((F_s_DrawAlgebraOfFrame code).2).length) c529]) hE576 (y_loadS Try.underlying30 rfl (by kernel_rfl) rfl (St.row (i := 2) hS572 rfl)) rfl rfl rfl ?_; intro a577 hE578; clear hE576
      refine l_step hE578 rfl (l_call (f := 74) (argv := [.agg #[.int .i64 ((F_s_DrawAlgebraOfFrame code).1), .slice b528 (((F_s_DrawAlgebraOfFrame code).2).length) c529]]) hE578 (fun _ => cf_s_AlgebraOfFrame _ _) rfl rfl (c_s_AlgebraOfFrame ((F_s_DrawAlgebraOfFrame code).1) b528 (((F_s_DrawAlgebraOfFrame code).2).length) c529 ((F_s_DrawAlgebraOfFrame code).2) w569 (St.rdO (i := 3) hS572 rfl)) ?_)
      rintro _ w580 ⟨b585, c586, rfl, ho587, he584⟩ a581 hE582; clear hE578
      have hS583 := St.own hS572 he584 ho587; clear hS572
      refine q_step (v := .tuple #[.agg #[.int .i64 (((F_s_AlgebraOfFrame ((F_s_DrawAlgebraOfFrame code).1) ((F_s_DrawAlgebraOfFrame code).2)).1).1), .slice b585 ((((F_s_AlgebraOfFrame ((F_s_DrawAlgebraOfFrame code).1) ((F_s_DrawAlgebraOfFrame code).2)).1).2).length) c586], .int .i64 ((F_s_AlgebraOfFrame ((F_s_DrawAlgebraOfFrame code).1) ((F_s_DrawAlgebraOfFrame code).2)).2)]) hE582 (y_move rfl) rfl rfl rfl ?_; intro a588 hE589; clear hE582
      refine q_step (v := .agg #[.int .i64 (((F_s_AlgebraOfFrame ((F_s_DrawAlgebraOfFrame code).1) ((F_s_DrawAlgebraOfFrame code).2)).1).1), .slice b585 ((((F_s_AlgebraOfFrame ((F_s_DrawAlgebraOfFrame code).1) ((F_s_DrawAlgebraOfFrame code).2)).1).2).length) c586]) hE589 (y_extract rfl rfl) rfl rfl rfl ?_; intro a590 hE591; clear hE589
      refine q_step (v := .int .i64 ((F_s_AlgebraOfFrame ((F_s_DrawAlgebraOfFrame code).1) ((F_s_DrawAlgebraOfFrame code).2)).2)) hE591 (y_extract rfl rfl) rfl rfl rfl ?_; intro a592 hE593; clear hE591
      refine l_step hE593 rfl (l_alloc (z := .agg #[.int .i64 0, .slice none 0 0]) (cs := #[.int .i64 0, .slice none 0 0]) hS583 hE593 (fun _ => by kernel_rfl) rfl rfl ?_)
      intro b594 w595 hS598 he599 a596 hE597; clear hS583 hE593
      refine l_step hE597 rfl (l_storeS (k := 0) (cs' := #[.int .i64 (((F_s_AlgebraOfFrame ((F_s_DrawAlgebraOfFrame code).1) ((F_s_DrawAlgebraOfFrame code).2)).1).1), .slice b585 ((((F_s_AlgebraOfFrame ((F_s_DrawAlgebraOfFrame code).1) ((F_s_DrawAlgebraOfFrame code).2)).1).2).length) c586]) hS598 hE597 (by kernel_rfl) rfl rfl (by kernel_rfl) rfl rfl ?_)
      intro w601 hS604 a602 hE603; clear hS598 hE597
      refine q_step (v := .int .i64 ((F_s_AlgebraOfFrame ((F_s_DrawAlgebraOfFrame code).1) ((F_s_DrawAlgebraOfFrame code).2)).2)) hE603 (y_assign rfl) rfl rfl rfl ?_; intro a606 hE607; clear hE603
      refine c_nil ?_
      have hE608 := hE607.sub (L' := [(10, .pointer (some ⟨b531, 0, none⟩)), (11, .pointer (some ⟨b562, 0, none⟩)), (12, .int .i64 ((F_AlgebraOfFrame ((F_s_DrawAlgebraOfFrame code).1) ((F_s_DrawAlgebraOfFrame code).2)).2)), (13, .pointer (some ⟨b594, 0, none⟩)), (14, .int .i64 ((F_s_AlgebraOfFrame ((F_s_DrawAlgebraOfFrame code).1) ((F_s_DrawAlgebraOfFrame code).2)).2))]) ⟨rfl, rfl, rfl, rfl, rfl, trivial⟩; clear hE607
      refine p_tn ?_
      refine c_seq ?_
      refine c_seq ?_
      refine c_reg ?_
      refine q_step (v := .int .i64 ((F_AlgebraOfFrame ((F_s_DrawAlgebraOfFrame code).1) ((F_s_DrawAlgebraOfFrame code).2)).2)) hE608 (y_move rfl) rfl rfl rfl ?_; intro a609 hE610; clear hE608
      refine q_step (v := .int .i64 ((F_s_AlgebraOfFrame ((F_s_DrawAlgebraOfFrame code).1) ((F_s_DrawAlgebraOfFrame code).2)).2)) hE610 (y_move rfl) rfl rfl rfl ?_; intro a611 hE612; clear hE610
      refine q_step (v := .bool (!decide (((F_AlgebraOfFrame ((F_s_DrawAlgebraOfFrame code).1) ((F_s_DrawAlgebraOfFrame code).2)).2) = ((F_s_AlgebraOfFrame ((F_s_DrawAlgebraOfFrame code).1) ((F_s_DrawAlgebraOfFrame code).2)).2)))) hE612 (y_neq rfl rfl) rfl rfl rfl ?_; intro a613 hE614; clear hE612
      refine q_step (v := .bool (!decide (((F_AlgebraOfFrame ((F_s_DrawAlgebraOfFrame code).1) ((F_s_DrawAlgebraOfFrame code).2)).2) = ((F_s_AlgebraOfFrame ((F_s_DrawAlgebraOfFrame code).1) ((F_s_DrawAlgebraOfFrame code).2)).2)))) hE614 (y_move rfl) rfl rfl rfl ?_; intro a615 hE616; clear hE614
      rcases Bool.eq_false_or_eq_true (!decide (((F_AlgebraOfFrame ((F_s_DrawAlgebraOfFrame code).1) ((F_s_DrawAlgebraOfFrame code).2)).2) = ((F_s_AlgebraOfFrame ((F_s_DrawAlgebraOfFrame code).1) ((F_s_DrawAlgebraOfFrame code).2)).2))) with hb617 | hb617
      ·
       have hE618 := hE616; (try rw [hb617] at hE618); clear hE616
       have ht619 := bn_t hb617
       have hp620 := of_decide_eq_false ht619
       refine q_skip hE618 rfl rfl rfl ?_; intro a621 hE622; clear hE618
       refine q_skip hE622 rfl rfl rfl ?_; intro a623 hE624; clear hE622
       refine q_skip hE624 rfl rfl rfl ?_; intro a625 hE626; clear hE624
       refine q_skip hE626 rfl rfl rfl ?_; intro a627 hE628; clear hE626
       refine q_step (v := .bool true) hE628 (y_pick (b := true) rfl rfl) rfl rfl rfl ?_; intro a629 hE630; clear hE628
       refine c_nil ?_
       have hE631 := hE630.sub (L' := [(10, .pointer (some ⟨b531, 0, none⟩)), (12, .int .i64 ((F_AlgebraOfFrame ((F_s_DrawAlgebraOfFrame code).1) ((F_s_DrawAlgebraOfFrame code).2)).2)), (13, .pointer (some ⟨b594, 0, none⟩)), (80, .bool true)]) ⟨rfl, rfl, rfl, rfl, trivial⟩; clear hE630
       refine p_tn ?_
       refine c_true hE631 rfl ?_
       refine c_seq ?_
       refine c_reg ?_
       refine q_step (v := .bool false) hE631 (y_assign rfl) rfl rfl rfl ?_; intro a632 hE633; clear hE631
       refine c_nil ?_
       have hE634 := hE633.sub (L' := [(2, .bool false)]) ⟨rfl, trivial⟩; clear hE633
       refine p_tn ?_
       refine wp_ret ?_
       refine p_tr ?_
       have hF : F_l_FnModalDuality code = false := by unfold F_l_FnModalDuality; rw [hb617, ht165, ht152, hb116, ht13]; first | done | rfl
       refine c_ret1 hE634 rfl rfl ?_
       exact ⟨(by rw [hF]; first | done | (dsimp only; done) | rfl), hS604.ext⟩
      ·
       have hE635 := hE616; (try rw [hb617] at hE635); clear hE616
       have ht636 := bn_f hb617
       have hp637 := of_decide_eq_true ht636
       refine q_step (v := .agg #[.int .i64 (((F_AlgebraOfFrame ((F_s_DrawAlgebraOfFrame code).1) ((F_s_DrawAlgebraOfFrame code).2)).1).1), .slice b552 ((((F_AlgebraOfFrame ((F_s_DrawAlgebraOfFrame code).1) ((F_s_DrawAlgebraOfFrame code).2)).1).2).length) c553]) hE635 (y_loadS Try.underlying79 rfl (by kernel_rfl) rfl (St.row (i := 2) hS604 rfl)) rfl rfl rfl ?_; intro a638 hE639; clear hE635
       refine q_step (v := .agg #[.int .i64 (((F_s_AlgebraOfFrame ((F_s_DrawAlgebraOfFrame code).1) ((F_s_DrawAlgebraOfFrame code).2)).1).1), .slice b585 ((((F_s_AlgebraOfFrame ((F_s_DrawAlgebraOfFrame code).1) ((F_s_DrawAlgebraOfFrame code).2)).1).2).length) c586]) hE639 (y_loadS Try.underlying79 rfl (by kernel_rfl) rfl (St.row (i := 0) hS604 rfl)) rfl rfl rfl ?_; intro a640 hE641; clear hE639
       refine l_step hE641 rfl (l_call (f := 71) (argv := [.agg #[.int .i64 (((F_AlgebraOfFrame ((F_s_DrawAlgebraOfFrame code).1) ((F_s_DrawAlgebraOfFrame code).2)).1).1), .slice b552 ((((F_AlgebraOfFrame ((F_s_DrawAlgebraOfFrame code).1) ((F_s_DrawAlgebraOfFrame code).2)).1).2).length) c553], .agg #[.int .i64 (((F_s_AlgebraOfFrame ((F_s_DrawAlgebraOfFrame code).1) ((F_s_DrawAlgebraOfFrame code).2)).1).1), .slice b585 ((((F_s_AlgebraOfFrame ((F_s_DrawAlgebraOfFrame code).1) ((F_s_DrawAlgebraOfFrame code).2)).1).2).length) c586]]) hE641 (fun _ => cf_l_likeAlgebra5 _ _) rfl rfl (c_l_likeAlgebra5 (((F_AlgebraOfFrame ((F_s_DrawAlgebraOfFrame code).1) ((F_s_DrawAlgebraOfFrame code).2)).1).1) b552 ((((F_AlgebraOfFrame ((F_s_DrawAlgebraOfFrame code).1) ((F_s_DrawAlgebraOfFrame code).2)).1).2).length) c553 (((F_AlgebraOfFrame ((F_s_DrawAlgebraOfFrame code).1) ((F_s_DrawAlgebraOfFrame code).2)).1).2) (((F_s_AlgebraOfFrame ((F_s_DrawAlgebraOfFrame code).1) ((F_s_DrawAlgebraOfFrame code).2)).1).1) b585 ((((F_s_AlgebraOfFrame ((F_s_DrawAlgebraOfFrame code).1) ((F_s_DrawAlgebraOfFrame code).2)).1).2).length) c586 (((F_s_AlgebraOfFrame ((F_s_DrawAlgebraOfFrame code).1) ((F_s_DrawAlgebraOfFrame code).2)).1).2) w601 (St.rdO (i := 3) hS604 rfl) (St.rdO (i := 1) hS604 rfl)) ?_)
       rintro _ w643 ⟨rfl, he647⟩ a644 hE645; clear hE641
       have hS646 := St.go hS604 he647; clear hS604
       refine q_step (v := .bool (!(F_l_likeAlgebra5 (((F_AlgebraOfFrame ((F_s_DrawAlgebraOfFrame code).1) ((F_s_DrawAlgebraOfFrame code).2)).1).1) (((F_AlgebraOfFrame ((F_s_DrawAlgebraOfFrame code).1) ((F_s_DrawAlgebraOfFrame code).2)).1).2) (((F_s_AlgebraOfFrame ((F_s_DrawAlgebraOfFrame code).1) ((F_s_DrawAlgebraOfFrame code).2)).1).1) (((F_s_AlgebraOfFrame ((F_s_DrawAlgebraOfFrame code).1) ((F_s_DrawAlgebraOfFrame code).2)).1).2)))) hE645 (y_not rfl) rfl rfl rfl ?_; intro a648 hE649; clear hE645
       refine q_step (v := .bool (!(F_l_likeAlgebra5 (((F_AlgebraOfFrame ((F_s_DrawAlgebraOfFrame code).1) ((F_s_DrawAlgebraOfFrame code).2)).1).1) (((F_AlgebraOfFrame ((F_s_DrawAlgebraOfFrame code).1) ((F_s_DrawAlgebraOfFrame code).2)).1).2) (((F_s_AlgebraOfFrame ((F_s_DrawAlgebraOfFrame code).1) ((F_s_DrawAlgebraOfFrame code).2)).1).1) (((F_s_AlgebraOfFrame ((F_s_DrawAlgebraOfFrame code).1) ((F_s_DrawAlgebraOfFrame code).2)).1).2)))) hE649 (y_pick (b := false) rfl rfl) rfl rfl rfl ?_; intro a650 hE651; clear hE649
       refine c_nil ?_
       have hE652 := hE651.sub (L' := [(10, .pointer (some ⟨b531, 0, none⟩)), (12, .int .i64 ((F_AlgebraOfFrame ((F_s_DrawAlgebraOfFrame code).1) ((F_s_DrawAlgebraOfFrame code).2)).2)), (13, .pointer (some ⟨b594, 0, none⟩)), (80, .bool (!(F_l_likeAlgebra5 (((F_AlgebraOfFrame ((F_s_DrawAlgebraOfFrame code).1) ((F_s_DrawAlgebraOfFrame code).2)).1).1) (((F_AlgebraOfFrame ((F_s_DrawAlgebraOfFrame code).1) ((F_s_DrawAlgebraOfFrame code).2)).1).2) (((F_s_AlgebraOfFrame ((F_s_DrawAlgebraOfFrame code).1) ((F_s_DrawAlgebraOfFrame code).2)).1).1) (((F_s_AlgebraOfFrame ((F_s_DrawAlgebraOfFrame code).1) ((F_s_DrawAlgebraOfFrame code).2)).1).2))))]) ⟨rfl, rfl, rfl, rfl, trivial⟩; clear hE651
       refine p_tn ?_
       refine c_cond hE652 rfl (fun ht653 => ?_) (fun ht653 => ?_)
       ·
        have ht654 := bn_t ht653
        have hE655 := hE652; rw [ht653] at hE655; clear hE652
        refine c_seq ?_
        refine c_reg ?_
        refine q_step (v := .bool false) hE655 (y_assign rfl) rfl rfl rfl ?_; intro a656 hE657; clear hE655
        refine c_nil ?_
        have hE658 := hE657.sub (L' := [(2, .bool false)]) ⟨rfl, trivial⟩; clear hE657
        refine p_tn ?_
        refine wp_ret ?_
        refine p_tr ?_
        have hF : F_l_FnModalDuality code = false := by unfold F_l_FnModalDuality; rw [ht653, hb617, ht165, ht152, hb116, ht13]; first | done | rfl
        refine c_ret1 hE658 rfl rfl ?_
        exact ⟨(by rw [hF]; first | done | (dsimp only; done) | rfl), hS646.ext⟩
       ·
        have ht659 := bn_f ht653
        have hE660 := hE652; rw [ht653] at hE660; clear hE652
        refine wp_skip ?_
        refine p_tn ?_
        refine c_seq ?_
        refine c_seq ?_
        refine c_reg ?_
        refine q_step (v := .int .i64 ((F_AlgebraOfFrame ((F_s_DrawAlgebraOfFrame code).1) ((F_s_DrawAlgebraOfFrame code).2)).2)) hE660 (y_move rfl) rfl rfl rfl ?_; intro a661 hE662; clear hE660
        refine q_step (v := .bool (!decide (((F_AlgebraOfFrame ((F_s_DrawAlgebraOfFrame code).1) ((F_s_DrawAlgebraOfFrame code).2)).2) = 0))) hE662 (y_neq rfl rfl) rfl rfl rfl ?_; intro a663 hE664; clear hE662
        refine c_nil ?_
        have hE665 := hE664.sub (L' := [(10, .pointer (some ⟨b531, 0, none⟩)), (13, .pointer (some ⟨b594, 0, none⟩)), (82, .bool (!decide (((F_AlgebraOfFrame ((F_s_DrawAlgebraOfFrame code).1) ((F_s_DrawAlgebraOfFrame code).2)).2) = 0)))]) ⟨rfl, rfl, rfl, trivial⟩; clear hE664
        refine p_tn ?_
        refine c_cond hE665 rfl (fun ht666 => ?_) (fun ht666 => ?_)
        ·
         have ht667 := bn_t ht666
         have hp668 := of_decide_eq_false ht667
         have hE669 := hE665; rw [ht666] at hE669; clear hE665
         refine c_seq ?_
         refine c_reg ?_
         refine q_step (v := .bool true) hE669 (y_assign rfl) rfl rfl rfl ?_; intro a670 hE671; clear hE669
         refine c_nil ?_
         have hE672 := hE671.sub (L' := [(2, .bool true)]) ⟨rfl, trivial⟩; clear hE671
         refine p_tn ?_
         refine wp_ret ?_
         refine p_tr ?_
         have hF : F_l_FnModalDuality code = true := by unfold F_l_FnModalDuality; rw [ht666, ht653, hb617, ht165, ht152, hb116, ht13]; first | done | rfl
         refine c_ret1 hE672 rfl rfl ?_
         exact ⟨(by rw [hF]; first | done | (dsimp only; done) | rfl), hS646.ext⟩
        ·
         have ht673 := bn_f ht666
         have hp674 := of_decide_eq_true ht673
         have hE675 := hE665; rw [ht666] at hE675; clear hE665
         refine wp_skip ?_
         refine p_tn ?_
         refine c_seq ?_
         refine c_reg ?_
         refine q_step (v := .agg #[.int .i64 (((F_s_AlgebraOfFrame ((F_s_DrawAlgebraOfFrame code).1) ((F_s_DrawAlgebraOfFrame code).2)).1).1), .slice b585 ((((F_s_AlgebraOfFrame ((F_s_DrawAlgebraOfFrame code).1) ((F_s_DrawAlgebraOfFrame code).2)).1).2).length) c586]) hE675 (y_loadS Try.underlying79 rfl (by kernel_rfl) rfl (St.row (i := 0) hS646 rfl)) rfl rfl rfl ?_; intro a676 hE677; clear hE675
         refine l_step hE677 rfl (l_call (f := 68) (argv := [.agg #[.int .i64 (((F_s_AlgebraOfFrame ((F_s_DrawAlgebraOfFrame code).1) ((F_s_DrawAlgebraOfFrame code).2)).1).1), .slice b585 ((((F_s_AlgebraOfFrame ((F_s_DrawAlgebraOfFrame code).1) ((F_s_DrawAlgebraOfFrame code).2)).1).2).length) c586]]) hE677 (fun _ => cf_FrameOfAlgebra _ _) rfl rfl (c_FrameOfAlgebra (((F_s_AlgebraOfFrame ((F_s_DrawAlgebraOfFrame code).1) ((F_s_DrawAlgebraOfFrame code).2)).1).1) b585 ((((F_s_AlgebraOfFrame ((F_s_DrawAlgebraOfFrame code).1) ((F_s_DrawAlgebraOfFrame code).2)).1).2).length) c586 (((F_s_AlgebraOfFrame ((F_s_DrawAlgebraOfFrame code).1) ((F_s_DrawAlgebraOfFrame code).2)).1).2) w643 (St.rdO (i := 1) hS646 rfl)) ?_)
         rintro _ w679 ⟨b684, c685, rfl, ho686, he683⟩ a680 hE681; clear hE677
         have hf687 := FrameOfAlgebra_len (((F_s_AlgebraOfFrame ((F_s_DrawAlgebraOfFrame code).1) ((F_s_DrawAlgebraOfFrame code).2)).1).1) (((F_s_AlgebraOfFrame ((F_s_DrawAlgebraOfFrame code).1) ((F_s_DrawAlgebraOfFrame code).2)).1).2)
         have hS682 := St.own hS646 he683 ho686; clear hS646
         refine q_step (v := .tuple #[.agg #[.int .i64 (((F_FrameOfAlgebra (((F_s_AlgebraOfFrame ((F_s_DrawAlgebraOfFrame code).1) ((F_s_DrawAlgebraOfFrame code).2)).1).1) (((F_s_AlgebraOfFrame ((F_s_DrawAlgebraOfFrame code).1) ((F_s_DrawAlgebraOfFrame code).2)).1).2)).1).1), .slice b684 ((((F_FrameOfAlgebra (((F_s_AlgebraOfFrame ((F_s_DrawAlgebraOfFrame code).1) ((F_s_DrawAlgebraOfFrame code).2)).1).1) (((F_s_AlgebraOfFrame ((F_s_DrawAlgebraOfFrame code).1) ((F_s_DrawAlgebraOfFrame code).2)).1).2)).1).2).length) c685], .int .i64 ((F_FrameOfAlgebra (((F_s_AlgebraOfFrame ((F_s_DrawAlgebraOfFrame code).1) ((F_s_DrawAlgebraOfFrame code).2)).1).1) (((F_s_AlgebraOfFrame ((F_s_DrawAlgebraOfFrame code).1) ((F_s_DrawAlgebraOfFrame code).2)).1).2)).2)]) hE681 (y_move rfl) rfl rfl rfl ?_; intro a688 hE689; clear hE681
         refine q_step (v := .agg #[.int .i64 (((F_FrameOfAlgebra (((F_s_AlgebraOfFrame ((F_s_DrawAlgebraOfFrame code).1) ((F_s_DrawAlgebraOfFrame code).2)).1).1) (((F_s_AlgebraOfFrame ((F_s_DrawAlgebraOfFrame code).1) ((F_s_DrawAlgebraOfFrame code).2)).1).2)).1).1), .slice b684 ((((F_FrameOfAlgebra (((F_s_AlgebraOfFrame ((F_s_DrawAlgebraOfFrame code).1) ((F_s_DrawAlgebraOfFrame code).2)).1).1) (((F_s_AlgebraOfFrame ((F_s_DrawAlgebraOfFrame code).1) ((F_s_DrawAlgebraOfFrame code).2)).1).2)).1).2).length) c685]) hE689 (y_extract rfl rfl) rfl rfl rfl ?_; intro a690 hE691; clear hE689
         refine q_step (v := .int .i64 ((F_FrameOfAlgebra (((F_s_AlgebraOfFrame ((F_s_DrawAlgebraOfFrame code).1) ((F_s_DrawAlgebraOfFrame code).2)).1).1) (((F_s_AlgebraOfFrame ((F_s_DrawAlgebraOfFrame code).1) ((F_s_DrawAlgebraOfFrame code).2)).1).2)).2)) hE691 (y_extract rfl rfl) rfl rfl rfl ?_; intro a692 hE693; clear hE691
         refine l_step hE693 rfl (l_alloc (z := .agg #[.int .i64 0, .slice none 0 0]) (cs := #[.int .i64 0, .slice none 0 0]) hS682 hE693 (fun _ => by kernel_rfl) rfl rfl ?_)
         intro b694 w695 hS698 he699 a696 hE697; clear hS682 hE693
         refine l_step hE697 rfl (l_storeS (k := 0) (cs' := #[.int .i64 (((F_FrameOfAlgebra (((F_s_AlgebraOfFrame ((F_s_DrawAlgebraOfFrame code).1) ((F_s_DrawAlgebraOfFrame code).2)).1).1) (((F_s_AlgebraOfFrame ((F_s_DrawAlgebraOfFrame code).1) ((F_s_DrawAlgebraOfFrame code).2)).1).2)).1).1), .slice b684 ((((F_FrameOfAlgebra (((F_s_AlgebraOfFrame ((F_s_DrawAlgebraOfFrame code).1) ((F_s_DrawAlgebraOfFrame code).2)).1).1) (((F_s_AlgebraOfFrame ((F_s_DrawAlgebraOfFrame code).1) ((F_s_DrawAlgebraOfFrame code).2)).1).2)).1).2).length) c685]) hS698 hE697 (by kernel_rfl) rfl rfl (by kernel_rfl) rfl rfl ?_)
         intro w701 hS704 a702 hE703; clear hS698 hE697
         refine q_step (v := .int .i64 ((F_FrameOfAlgebra (((F_s_AlgebraOfFrame ((F_s_DrawAlgebraOfFrame code).1) ((F_s_DrawAlgebraOfFrame code).2)).1).1) (((F_s_AlgebraOfFrame ((F_s_DrawAlgebraOfFrame code).1) ((F_s_DrawAlgebraOfFrame code).2)).1).2)).2)) hE703 (y_assign rfl) rfl rfl rfl ?_; intro a706 hE707; clear hE703
         refine c_nil ?_
         have hE708 := hE707.sub (L' := [(10, .pointer (some ⟨b531, 0, none⟩)), (15, .pointer (some ⟨b694, 0, none⟩)), (16, .int .i64 ((F_FrameOfAlgebra (((F_s_AlgebraOfFrame ((F_s_DrawAlgebraOfFrame code).1) ((F_s_DrawAlgebraOfFrame code).2)).1).1) (((F_s_AlgebraOfFrame ((F_s_DrawAlgebraOfFrame code).1) ((F_s_DrawAlgebraOfFrame code).2)).1).2)).2))]) ⟨rfl, rfl, rfl, trivial⟩; clear hE707
         refine p_tn ?_
         refine c_seq ?_
         refine c_reg ?_
         refine q_step (v := .int .i64 ((F_FrameOfAlgebra (((F_s_AlgebraOfFrame ((F_s_DrawAlgebraOfFrame code).1) ((F_s_DrawAlgebraOfFrame code).2)).1).1) (((F_s_AlgebraOfFrame ((F_s_DrawAlgebraOfFrame code).1) ((F_s_DrawAlgebraOfFrame code).2)).1).2)).2)) hE708 (y_move rfl) rfl rfl rfl ?_; intro a709 hE710; clear hE708
         refine q_step (v := .bool (decide (((F_FrameOfAlgebra (((F_s_AlgebraOfFrame ((F_s_DrawAlgebraOfFrame code).1) ((F_s_DrawAlgebraOfFrame code).2)).1).1) (((F_s_AlgebraOfFrame ((F_s_DrawAlgebraOfFrame code).1) ((F_s_DrawAlgebraOfFrame code).2)).1).2)).2) = 0))) hE710 (y_eql rfl rfl) rfl rfl rfl ?_; intro a711 hE712; clear hE710
         refine q_step (v := .bool (decide (((F_FrameOfAlgebra (((F_s_AlgebraOfFrame ((F_s_DrawAlgebraOfFrame code).1) ((F_s_DrawAlgebraOfFrame code).2)).1).1) (((F_s_AlgebraOfFrame ((F_s_DrawAlgebraOfFrame code).1) ((F_s_DrawAlgebraOfFrame code).2)).1).2)).2) = 0))) hE712 (y_move rfl) rfl rfl rfl ?_; intro a713 hE714; clear hE712
         rcases Bool.eq_false_or_eq_true (decide (((F_FrameOfAlgebra (((F_s_AlgebraOfFrame ((F_s_DrawAlgebraOfFrame code).1) ((F_s_DrawAlgebraOfFrame code).2)).1).1) (((F_s_AlgebraOfFrame ((F_s_DrawAlgebraOfFrame code).1) ((F_s_DrawAlgebraOfFrame code).2)).1).2)).2) = 0)) with hb715 | hb715
         ·
          have hE716 := hE714; (try rw [hb715] at hE716); clear hE714
          have hp717 := of_decide_eq_true hb715
          refine q_step (v := .agg #[.int .i64 (((F_FrameOfAlgebra (((F_s_AlgebraOfFrame ((F_s_DrawAlgebraOfFrame code).1) ((F_s_DrawAlgebraOfFrame code).2)).1).1) (((F_s_AlgebraOfFrame ((F_s_DrawAlgebraOfFrame code).1) ((F_s_DrawAlgebraOfFrame code).2)).1).2)).1).1), .slice b684 ((((F_FrameOfAlgebra (((F_s_AlgebraOfFrame ((F_s_DrawAlgebraOfFrame code).1) ((F_s_DrawAlgebraOfFrame code).2)).1).1) (((F_s_AlgebraOfFrame ((F_s_DrawAlgebraOfFrame code).1) ((F_s_DrawAlgebraOfFrame code).2)).1).2)).1).2).length) c685]) hE716 (y_loadS Try.underlying30 rfl (by kernel_rfl) rfl (St.row (i := 0) hS704 rfl)) rfl rfl rfl ?_; intro a718 hE719; clear hE716
          refine q_step (v := .agg #[.int .i64 ((F_s_DrawAlgebraOfFrame code).1), .slice b528 (((F_s_DrawAlgebraOfFrame code).2).length) c529]) hE719 (y_loadS Try.underlying30 rfl (by kernel_rfl) rfl (St.row (i := 6) hS704 rfl)) rfl rfl rfl ?_; intro a720 hE721; clear hE719
          refine l_step hE721 rfl (l_call (f := 55) (argv := [.agg #[.int .i64 (((F_FrameOfAlgebra (((F_s_AlgebraOfFrame ((F_s_DrawAlgebraOfFrame code).1) ((F_s_DrawAlgebraOfFrame code).2)).1).1) (((F_s_AlgebraOfFrame ((F_s_DrawAlgebraOfFrame code).1) ((F_s_DrawAlgebraOfFrame code).2)).1).2)).1).1), .slice b684 ((((F_FrameOfAlgebra (((F_s_AlgebraOfFrame ((F_s_DrawAlgebraOfFrame code).1) ((F_s_DrawAlgebraOfFrame code).2)).1).1) (((F_s_AlgebraOfFrame ((F_s_DrawAlgebraOfFrame code).1) ((F_s_DrawAlgebraOfFrame code).2)).1).2)).1).2).length) c685], .agg #[.int .i64 ((F_s_DrawAlgebraOfFrame code).1), .slice b528 (((F_s_DrawAlgebraOfFrame code).2).length) c529]]) hE721 (fun _ => cf_l_likeFrame5 _ _) rfl rfl (c_l_likeFrame5 (((F_FrameOfAlgebra (((F_s_AlgebraOfFrame ((F_s_DrawAlgebraOfFrame code).1) ((F_s_DrawAlgebraOfFrame code).2)).1).1) (((F_s_AlgebraOfFrame ((F_s_DrawAlgebraOfFrame code).1) ((F_s_DrawAlgebraOfFrame code).2)).1).2)).1).1) b684 ((((F_FrameOfAlgebra (((F_s_AlgebraOfFrame ((F_s_DrawAlgebraOfFrame code).1) ((F_s_DrawAlgebraOfFrame code).2)).1).1) (((F_s_AlgebraOfFrame ((F_s_DrawAlgebraOfFrame code).1) ((F_s_DrawAlgebraOfFrame code).2)).1).2)).1).2).length) c685 (((F_FrameOfAlgebra (((F_s_AlgebraOfFrame ((F_s_DrawAlgebraOfFrame code).1) ((F_s_DrawAlgebraOfFrame code).2)).1).1) (((F_s_AlgebraOfFrame ((F_s_DrawAlgebraOfFrame code).1) ((F_s_DrawAlgebraOfFrame code).2)).1).2)).1).2) ((F_s_DrawAlgebraOfFrame code).1) b528 (((F_s_DrawAlgebraOfFrame code).2).length) c529 ((F_s_DrawAlgebraOfFrame code).2) w701 (St.rdO (i := 1) hS704 rfl) (St.rdO (i := 7) hS704 rfl)) ?_)
          rintro _ w723 ⟨rfl, he727⟩ a724 hE725; clear hE721
          have hS726 := St.go hS704 he727; clear hS704
          refine q_step (v := .bool (F_l_likeFrame5 (((F_FrameOfAlgebra (((F_s_AlgebraOfFrame ((F_s_DrawAlgebraOfFrame code).1) ((F_s_DrawAlgebraOfFrame code).2)).1).1) (((F_s_AlgebraOfFrame ((F_s_DrawAlgebraOfFrame code).1) ((F_s_DrawAlgebraOfFrame code).2)).1).2)).1).1) (((F_FrameOfAlgebra (((F_s_AlgebraOfFrame ((F_s_DrawAlgebraOfFrame code).1) ((F_s_DrawAlgebraOfFrame code).2)).1).1) (((F_s_AlgebraOfFrame ((F_s_DrawAlgebraOfFrame code).1) ((F_s_DrawAlgebraOfFrame code).2)).1).2)).1).2) ((F_s_DrawAlgebraOfFrame code).1) ((F_s_DrawAlgebraOfFrame code).2))) hE725 (y_pick (b := true) rfl rfl) rfl rfl rfl ?_; intro a728 hE729; clear hE725
          refine q_step (v := .bool (F_l_likeFrame5 (((F_FrameOfAlgebra (((F_s_AlgebraOfFrame ((F_s_DrawAlgebraOfFrame code).1) ((F_s_DrawAlgebraOfFrame code).2)).1).1) (((F_s_AlgebraOfFrame ((F_s_DrawAlgebraOfFrame code).1) ((F_s_DrawAlgebraOfFrame code).2)).1).2)).1).1) (((F_FrameOfAlgebra (((F_s_AlgebraOfFrame ((F_s_DrawAlgebraOfFrame code).1) ((F_s_DrawAlgebraOfFrame code).2)).1).1) (((F_s_AlgebraOfFrame ((F_s_DrawAlgebraOfFrame code).1) ((F_s_DrawAlgebraOfFrame code).2)).1).2)).1).2) ((F_s_DrawAlgebraOfFrame code).1) ((F_s_DrawAlgebraOfFrame code).2))) hE729 (y_assign rfl) rfl rfl rfl ?_; intro a730 hE731; clear hE729
          refine c_nil ?_
          have hE732 := hE731.sub (L' := [(2, .bool (F_l_likeFrame5 (((F_FrameOfAlgebra (((F_s_AlgebraOfFrame ((F_s_DrawAlgebraOfFrame code).1) ((F_s_DrawAlgebraOfFrame code).2)).1).1) (((F_s_AlgebraOfFrame ((F_s_DrawAlgebraOfFrame code).1) ((F_s_DrawAlgebraOfFrame code).2)).1).2)).1).1) (((F_FrameOfAlgebra (((F_s_AlgebraOfFrame ((F_s_DrawAlgebraOfFrame code).1) ((F_s_DrawAlgebraOfFrame code).2)).1).1) (((F_s_AlgebraOfFrame ((F_s_DrawAlgebraOfFrame code).1) ((F_s_DrawAlgebraOfFrame code).2)).1).2)).1).2) ((F_s_DrawAlgebraOfFrame code).1) ((F_s_DrawAlgebraOfFrame code).2)))]) ⟨rfl, trivial⟩; clear hE731
          refine p_tn ?_
          refine wp_ret ?_
          have hF : F_l_FnModalDuality code = F_l_likeFrame5 (((F_FrameOfAlgebra (((F_s_AlgebraOfFrame ((F_s_DrawAlgebraOfFrame code).1) ((F_s_DrawAlgebraOfFrame code).2)).1).1) (((F_s_AlgebraOfFrame ((F_s_DrawAlgebraOfFrame code).1) ((F_s_DrawAlgebraOfFrame code).2)).1).2)).1).1) (((F_FrameOfAlgebra (((F_s_AlgebraOfFrame ((F_s_DrawAlgebraOfFrame code).1) ((F_s_DrawAlgebraOfFrame code).2)).1).1) (((F_s_AlgebraOfFrame ((F_s_DrawAlgebraOfFrame code).1) ((F_s_DrawAlgebraOfFrame code).2)).1).2)).1).2) ((F_s_DrawAlgebraOfFrame code).1) ((F_s_DrawAlgebraOfFrame code).2) := by unfold F_l_FnModalDuality; rw [hb715, ht666, ht653, hb617, ht165, ht152, hb116, ht13]; first | done | rfl
          refine c_ret1 hE732 rfl rfl ?_
          exact ⟨(by rw [hF]; first | done | (dsimp only; done) | rfl), hS726.ext⟩
         ·
          have hE733 := hE714; (try rw [hb715] at hE733); clear hE714
          have hp734 := of_decide_eq_false hb715
          refine q_skip hE733 rfl rfl rfl ?_; intro a735 hE736; clear hE733
          refine q_skip hE736 rfl rfl rfl ?_; intro a737 hE738; clear hE736
          refine q_skip hE738 rfl rfl rfl ?_; intro a739 hE740; clear hE738
          refine q_step (v := .bool false) hE740 (y_pick (b := false) rfl rfl) rfl rfl rfl ?_; intro a741 hE742; clear hE740
          refine q_step (v := .bool false) hE742 (y_assign rfl) rfl rfl rfl ?_; intro a743 hE744; clear hE742
          refine c_nil ?_
          have hE745 := hE744.sub (L' := [(2, .bool false)]) ⟨rfl, trivial⟩; clear hE744
          refine p_tn ?_
          refine wp_ret ?_
          have hF : F_l_FnModalDuality code = false := by unfold F_l_FnModalDuality; rw [hb715, ht666, ht653, hb617, ht165, ht152, hb116, ht13]; first | done | rfl
          refine c_ret1 hE745 rfl rfl ?_
          exact ⟨(by rw [hF]; first | done | (dsimp only; done) | rfl), hS704.ext⟩
theorem rl_frame {n : Nat} (hn : n ≤ 8) {a : List Int} (ha : Rl n a) : F_l05Is (n : Int) a = true := by
  have hl := ha.1
  unfold F_l05Is F_l01In
  rw [masks_iff.2 (fun k hk => ha.2 k (by omega)), hl, decide_eq_true (by omega), decide_eq_true (by omega), decide_eq_true rfl]; rfl
theorem foa_ok {a0 : Int} {a1 : List Int} (hv : (F_s_FrameOfAlgebra a0 a1).2 = 0) : ∃ fr, F_s_FrameOfAlgebra a0 a1 = ((a0, fr), 0) ∧ F_s_AlgebraOfFrame a0 fr = ((a0, a1), 0) ∧ F_IsModalAlgebra a0 a1 = true := by
  cases h : F_l15Is a0 a1
  · unfold F_s_FrameOfAlgebra at hv
    rw [h] at hv
    exact absurd (show (1 : Int) = 0 from hv) (by decide)
  · have h1 := (l15Is_t h).1.1
    obtain ⟨n, rfl⟩ : ∃ n : Nat, a0 = (n : Int) := ⟨a0.toNat, by omega⟩
    obtain ⟨fr, f1, f2, f3⟩ := dual_alg (show n ≤ 5 by omega) (alg_of (by omega) h)
    refine ⟨fr, ?_, ?_, ?_⟩
    · unfold F_s_FrameOfAlgebra
      rw [h, f1]; rfl
    · unfold F_s_AlgebraOfFrame
      rw [rl_frame (by omega) f2, f3, decide_eq_false (by omega)]; rfl
    · unfold F_IsModalAlgebra
      rw [isModal_eq, h]
theorem aof_ok {g0 : Int} {g1 : List Int} (hv : (F_s_AlgebraOfFrame g0 g1).2 = 0) : ∃ bx, F_s_AlgebraOfFrame g0 g1 = ((g0, bx), 0) ∧ F_s_FrameOfAlgebra g0 bx = ((g0, g1), 0) := by
  cases h : F_l05Is g0 g1
  · unfold F_s_AlgebraOfFrame at hv
    rw [h] at hv
    exact absurd (show (1 : Int) = 0 from hv) (by decide)
  · by_cases h5 : 5 < g0
    · unfold F_s_AlgebraOfFrame at hv
      rw [h, decide_eq_true h5] at hv
      exact absurd (show (3 : Int) = 0 from hv) (by decide)
    · have ht := l05Is_t h
      obtain ⟨n, rfl⟩ : ∃ n : Nat, g0 = (n : Int) := ⟨g0.toNat, by omega⟩
      have hg : Rl n g1 := ⟨by omega, fun i hi => l05Is_m h (i : Int) (by omega) (by omega)⟩
      obtain ⟨bx, b1, b2, b3⟩ := dual_frame (show n ≤ 5 by omega) hg
      refine ⟨bx, ?_, ?_⟩
      · unfold F_s_AlgebraOfFrame
        rw [h, b1, decide_eq_false h5]; rfl
      · unfold F_s_FrameOfAlgebra
        rw [b2.is (by omega), b3]; rfl
theorem FnModalDuality_true (code : List Int) : F_l_FnModalDuality code = true := by
  unfold F_l_FnModalDuality
  rcases Bool.eq_false_or_eq_true (F_l_big code) with hb | hb
  · rw [hb]; rfl
  rw [hb, cond_false]
  generalize F_s_DrawFrameOfAlgebra code = A
  generalize F_s_DrawAlgebraOfFrame code = G
  obtain ⟨a0, a1⟩ := A
  obtain ⟨g0, g1⟩ := G
  dsimp only
  unfold F_l_likeFrame5 F_l_likeAlgebra5
  simp only [FrameOfAlgebra_eq, AlgebraOfFrame_eq]
  have tail : (bif (!decide ((F_s_AlgebraOfFrame g0 g1).2 = 0)) then true else bif decide ((F_s_FrameOfAlgebra (F_s_AlgebraOfFrame g0 g1).1.1 (F_s_AlgebraOfFrame g0 g1).1.2).2 = 0) then (decide ((F_s_FrameOfAlgebra (F_s_AlgebraOfFrame g0 g1).1.1 (F_s_AlgebraOfFrame g0 g1).1.2).1.1 = g0) && decide ((F_s_FrameOfAlgebra (F_s_AlgebraOfFrame g0 g1).1.1 (F_s_AlgebraOfFrame g0 g1).1.2).1.2 = g1)) else false) = true := by
    by_cases hv : (F_s_AlgebraOfFrame g0 g1).2 = 0
    · obtain ⟨bx, b1, b2⟩ := aof_ok hv
      rw [b1]
      dsimp only
      rw [b2]
      simp
    · rw [decide_eq_false hv]; rfl
  by_cases hv : (F_s_FrameOfAlgebra a0 a1).2 = 0
  · obtain ⟨fr, f1, f2, f3⟩ := foa_ok hv
    rw [f1]
    dsimp only
    rw [f2]
    dsimp only
    rw [f3]
    simp only [decide_true, Bool.not_true, cond_false, cond_true, Bool.and_self]
    exact tail
  · rw [decide_eq_false hv]
    simp only [decide_true, Bool.not_true, cond_false, cond_true, Bool.and_self]
    exact tail
end Go.Proofs.Ytlbonhloeefnmaa
