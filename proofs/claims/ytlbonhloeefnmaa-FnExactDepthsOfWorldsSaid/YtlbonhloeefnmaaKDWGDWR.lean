/- GDWR: models and contracts, printed by wip/gen/gen.py -/
import Derived.Test.YtlbonhloeefnmaaKDWGQ
import Derived.Test.YtlbonhloeefnmaaKDWCopy
import Derived.Test.YtlbonhloeefnmaaKDWByte
set_option linter.unusedVariables false
set_option linter.unusedSimpArgs false
namespace Go.Proofs.Ytlbonhloeefnmaa
open Go.RowKit
def F_zb_Mul64 (xp : Int) (yp : Int) : (Int) × (Int) :=
  (wrU ((wrU ((wrU ((shrU xp 32) * (shrU yp 32))) + (shrU (wrU ((wrU ((shrU xp 32) * (andU yp 4294967295))) + (shrU (wrU ((andU xp 4294967295) * (andU yp 4294967295))) 32))) 32))) + (shrU (wrU ((andU (wrU ((wrU ((shrU xp 32) * (andU yp 4294967295))) + (shrU (wrU ((andU xp 4294967295) * (andU yp 4294967295))) 32))) 4294967295) + (wrU ((andU xp 4294967295) * (shrU yp 32))))) 32)), wrU (xp * yp))
theorem cf_zb_Mul64 (args : Array Value) (w : World) : (callFunc 241 args).run Try.prog w = .ok (.enter 241 args) w := by kernel_rfl
set_option maxRecDepth 100000 in
theorem c_zb_Mul64 (xp : Int) (yp : Int) (w : World) :
    Calls Try.prog 241 #[.int .u64 xp, .int .u64 yp] w (Ret fun v w' => v = .tuple #[.int .u64 ((F_zb_Mul64 xp yp).1), .int .u64 ((F_zb_Mul64 xp yp).2)] ∧ w = w') := by
  have hS := St.nil w
  refine enter (args := [.int .u64 xp, .int .u64 yp]) Try.func241 rfl rfl ?_
  rw [Try.ntmps241]; intro a hE
  have hE := hE.sub (L' := [(0, .int .u64 xp), (1, .int .u64 yp)]) ⟨rfl, rfl, trivial⟩
  refine c_seq ?_
  refine c_reg ?_
  refine q_step (v := .int .u64 0) hE (y_assign rfl) rfl rfl rfl ?_; intro a1 hE2; clear hE
  refine q_step (v := .int .u64 0) hE2 (y_assign rfl) rfl rfl rfl ?_; intro a3 hE4; clear hE2
  refine c_nil ?_
  have hE5 := hE4.sub (L' := [(0, .int .u64 xp), (1, .int .u64 yp)]) ⟨rfl, rfl, trivial⟩; clear hE4
  refine p_tn ?_
  refine c_seq ?_
  refine c_reg ?_
  refine q_step (v := .int .u64 xp) hE5 (y_move rfl) rfl rfl rfl ?_; intro a6 hE7; clear hE5
  refine q_step (v := .int .u64 (andU xp 4294967295)) hE7 (y_andU rfl rfl) rfl rfl rfl ?_; intro a8 hE9; clear hE7
  refine q_step (v := .int .u64 (andU xp 4294967295)) hE9 (y_assign rfl) rfl rfl rfl ?_; intro a10 hE11; clear hE9
  refine c_nil ?_
  have hE12 := hE11.sub (L' := [(0, .int .u64 xp), (1, .int .u64 yp), (6, .int .u64 (andU xp 4294967295))]) ⟨rfl, rfl, rfl, trivial⟩; clear hE11
  refine p_tn ?_
  refine c_seq ?_
  refine c_reg ?_
  refine q_step (v := .int .u64 xp) hE12 (y_move rfl) rfl rfl rfl ?_; intro a13 hE14; clear hE12
  refine q_step (v := .int .u64 (shrU xp 32)) hE14 (y_shrU rfl rfl (by omega)) rfl rfl rfl ?_; intro a15 hE16; clear hE14
  refine q_step (v := .int .u64 (shrU xp 32)) hE16 (y_assign rfl) rfl rfl rfl ?_; intro a17 hE18; clear hE16
  refine c_nil ?_
  have hE19 := hE18.sub (L' := [(0, .int .u64 xp), (1, .int .u64 yp), (6, .int .u64 (andU xp 4294967295)), (7, .int .u64 (shrU xp 32))]) ⟨rfl, rfl, rfl, rfl, trivial⟩; clear hE18
  refine p_tn ?_
  refine c_seq ?_
  refine c_reg ?_
  refine q_step (v := .int .u64 yp) hE19 (y_move rfl) rfl rfl rfl ?_; intro a20 hE21; clear hE19
  refine q_step (v := .int .u64 (andU yp 4294967295)) hE21 (y_andU rfl rfl) rfl rfl rfl ?_; intro a22 hE23; clear hE21
  refine q_step (v := .int .u64 (andU yp 4294967295)) hE23 (y_assign rfl) rfl rfl rfl ?_; intro a24 hE25; clear hE23
  refine c_nil ?_
  have hE26 := hE25.sub (L' := [(0, .int .u64 xp), (1, .int .u64 yp), (6, .int .u64 (andU xp 4294967295)), (7, .int .u64 (shrU xp 32)), (8, .int .u64 (andU yp 4294967295))]) ⟨rfl, rfl, rfl, rfl, rfl, trivial⟩; clear hE25
  refine p_tn ?_
  refine c_seq ?_
  refine c_reg ?_
  refine q_step (v := .int .u64 yp) hE26 (y_move rfl) rfl rfl rfl ?_; intro a27 hE28; clear hE26
  refine q_step (v := .int .u64 (shrU yp 32)) hE28 (y_shrU rfl rfl (by omega)) rfl rfl rfl ?_; intro a29 hE30; clear hE28
  refine q_step (v := .int .u64 (shrU yp 32)) hE30 (y_assign rfl) rfl rfl rfl ?_; intro a31 hE32; clear hE30
  refine c_nil ?_
  have hE33 := hE32.sub (L' := [(0, .int .u64 xp), (1, .int .u64 yp), (6, .int .u64 (andU xp 4294967295)), (7, .int .u64 (shrU xp 32)), (8, .int .u64 (andU yp 4294967295)), (9, .int .u64 (shrU yp 32))]) ⟨rfl, rfl, rfl, rfl, rfl, rfl, trivial⟩; clear hE32
  refine p_tn ?_
  refine c_seq ?_
  refine c_reg ?_
  refine q_step (v := .int .u64 (andU xp 4294967295)) hE33 (y_move rfl) rfl rfl rfl ?_; intro a34 hE35; clear hE33
  refine q_step (v := .int .u64 (andU yp 4294967295)) hE35 (y_move rfl) rfl rfl rfl ?_; intro a36 hE37; clear hE35
  refine q_step (v := .int .u64 (wrU ((andU xp 4294967295) * (andU yp 4294967295)))) hE37 (y_mulU rfl rfl) rfl rfl rfl ?_; intro a38 hE39; clear hE37
  refine q_step (v := .int .u64 (wrU ((andU xp 4294967295) * (andU yp 4294967295)))) hE39 (y_assign rfl) rfl rfl rfl ?_; intro a40 hE41; clear hE39
  refine c_nil ?_
  have hE42 := hE41.sub (L' := [(0, .int .u64 xp), (1, .int .u64 yp), (6, .int .u64 (andU xp 4294967295)), (7, .int .u64 (shrU xp 32)), (8, .int .u64 (andU yp 4294967295)), (9, .int .u64 (shrU yp 32)), (10, .int .u64 (wrU ((andU xp 4294967295) * (andU yp 4294967295))))]) ⟨rfl, rfl, rfl, rfl, rfl, rfl, rfl, trivial⟩; clear hE41
  refine p_tn ?_
  refine c_seq ?_
  refine c_reg ?_
  refine q_step (v := .int .u64 (shrU xp 32)) hE42 (y_move rfl) rfl rfl rfl ?_; intro a43 hE44; clear hE42
  refine q_step (v := .int .u64 (andU yp 4294967295)) hE44 (y_move rfl) rfl rfl rfl ?_; intro a45 hE46; clear hE44
  refine q_step (v := .int .u64 (wrU ((shrU xp 32) * (andU yp 4294967295)))) hE46 (y_mulU rfl rfl) rfl rfl rfl ?_; intro a47 hE48; clear hE46
  refine q_step (v := .int .u64 (wrU ((andU xp 4294967295) * (andU yp 4294967295)))) hE48 (y_move rfl) rfl rfl rfl ?_; intro a49 hE50; clear hE48
  refine q_step (v := .int .u64 (shrU (wrU ((andU xp 4294967295) * (andU yp 4294967295))) 32)) hE50 (y_shrU rfl rfl (by omega)) rfl rfl rfl ?_; intro a51 hE52; clear hE50
  refine q_step (v := .int .u64 (wrU ((wrU ((shrU xp 32) * (andU yp 4294967295))) + (shrU (wrU ((andU xp 4294967295) * (andU yp 4294967295))) 32)))) hE52 (y_addU rfl rfl) rfl rfl rfl ?_; intro a53 hE54; clear hE52
  refine q_step (v := .int .u64 (wrU ((wrU ((shrU xp 32) * (andU yp 4294967295))) + (shrU (wrU ((andU xp 4294967295) * (andU yp 4294967295))) 32)))) hE54 (y_assign rfl) rfl rfl rfl ?_; intro a55 hE56; clear hE54
  refine c_nil ?_
  have hE57 := hE56.sub (L' := [(0, .int .u64 xp), (1, .int .u64 yp), (6, .int .u64 (andU xp 4294967295)), (7, .int .u64 (shrU xp 32)), (9, .int .u64 (shrU yp 32)), (11, .int .u64 (wrU ((wrU ((shrU xp 32) * (andU yp 4294967295))) + (shrU (wrU ((andU xp 4294967295) * (andU yp 4294967295))) 32))))]) ⟨rfl, rfl, rfl, rfl, rfl, rfl, trivial⟩; clear hE56
  refine p_tn ?_
  refine c_seq ?_
  refine c_reg ?_
  refine q_step (v := .int .u64 (wrU ((wrU ((shrU xp 32) * (andU yp 4294967295))) + (shrU (wrU ((andU xp 4294967295) * (andU yp 4294967295))) 32)))) hE57 (y_move rfl) rfl rfl rfl ?_; intro a58 hE59; clear hE57
  refine q_step (v := .int .u64 (andU (wrU ((wrU ((shrU xp 32) * (andU yp 4294967295))) + (shrU (wrU ((andU xp 4294967295) * (andU yp 4294967295))) 32))) 4294967295)) hE59 (y_andU rfl rfl) rfl rfl rfl ?_; intro a60 hE61; clear hE59
  refine q_step (v := .int .u64 (andU (wrU ((wrU ((shrU xp 32) * (andU yp 4294967295))) + (shrU (wrU ((andU xp 4294967295) * (andU yp 4294967295))) 32))) 4294967295)) hE61 (y_assign rfl) rfl rfl rfl ?_; intro a62 hE63; clear hE61
  refine c_nil ?_
  have hE64 := hE63.sub (L' := [(0, .int .u64 xp), (1, .int .u64 yp), (6, .int .u64 (andU xp 4294967295)), (7, .int .u64 (shrU xp 32)), (9, .int .u64 (shrU yp 32)), (11, .int .u64 (wrU ((wrU ((shrU xp 32) * (andU yp 4294967295))) + (shrU (wrU ((andU xp 4294967295) * (andU yp 4294967295))) 32)))), (12, .int .u64 (andU (wrU ((wrU ((shrU xp 32) * (andU yp 4294967295))) + (shrU (wrU ((andU xp 4294967295) * (andU yp 4294967295))) 32))) 4294967295))]) ⟨rfl, rfl, rfl, rfl, rfl, rfl, rfl, trivial⟩; clear hE63
  refine p_tn ?_
  refine c_seq ?_
  refine c_reg ?_
  refine q_step (v := .int .u64 (wrU ((wrU ((shrU xp 32) * (andU yp 4294967295))) + (shrU (wrU ((andU xp 4294967295) * (andU yp 4294967295))) 32)))) hE64 (y_move rfl) rfl rfl rfl ?_; intro a65 hE66; clear hE64
  refine q_step (v := .int .u64 (shrU (wrU ((wrU ((shrU xp 32) * (andU yp 4294967295))) + (shrU (wrU ((andU xp 4294967295) * (andU yp 4294967295))) 32))) 32)) hE66 (y_shrU rfl rfl (by omega)) rfl rfl rfl ?_; intro a67 hE68; clear hE66
  refine q_step (v := .int .u64 (shrU (wrU ((wrU ((shrU xp 32) * (andU yp 4294967295))) + (shrU (wrU ((andU xp 4294967295) * (andU yp 4294967295))) 32))) 32)) hE68 (y_assign rfl) rfl rfl rfl ?_; intro a69 hE70; clear hE68
  refine c_nil ?_
  have hE71 := hE70.sub (L' := [(0, .int .u64 xp), (1, .int .u64 yp), (6, .int .u64 (andU xp 4294967295)), (7, .int .u64 (shrU xp 32)), (9, .int .u64 (shrU yp 32)), (12, .int .u64 (andU (wrU ((wrU ((shrU xp 32) * (andU yp 4294967295))) + (shrU (wrU ((andU xp 4294967295) * (andU yp 4294967295))) 32))) 4294967295)), (13, .int .u64 (shrU (wrU ((wrU ((shrU xp 32) * (andU yp 4294967295))) + (shrU (wrU ((andU xp 4294967295) * (andU yp 4294967295))) 32))) 32))]) ⟨rfl, rfl, rfl, rfl, rfl, rfl, rfl, trivial⟩; clear hE70
  refine p_tn ?_
  refine c_seq ?_
  refine c_reg ?_
  refine q_step (v := .int .u64 (andU (wrU ((wrU ((shrU xp 32) * (andU yp 4294967295))) + (shrU (wrU ((andU xp 4294967295) * (andU yp 4294967295))) 32))) 4294967295)) hE71 (y_move rfl) rfl rfl rfl ?_; intro a72 hE73; clear hE71
  refine q_step (v := .int .u64 (andU xp 4294967295)) hE73 (y_move rfl) rfl rfl rfl ?_; intro a74 hE75; clear hE73
  refine q_step (v := .int .u64 (shrU yp 32)) hE75 (y_move rfl) rfl rfl rfl ?_; intro a76 hE77; clear hE75
  refine q_step (v := .int .u64 (wrU ((andU xp 4294967295) * (shrU yp 32)))) hE77 (y_mulU rfl rfl) rfl rfl rfl ?_; intro a78 hE79; clear hE77
  refine q_step (v := .int .u64 (wrU ((andU (wrU ((wrU ((shrU xp 32) * (andU yp 4294967295))) + (shrU (wrU ((andU xp 4294967295) * (andU yp 4294967295))) 32))) 4294967295) + (wrU ((andU xp 4294967295) * (shrU yp 32)))))) hE79 (y_addU rfl rfl) rfl rfl rfl ?_; intro a80 hE81; clear hE79
  refine q_step (v := .int .u64 (wrU ((andU (wrU ((wrU ((shrU xp 32) * (andU yp 4294967295))) + (shrU (wrU ((andU xp 4294967295) * (andU yp 4294967295))) 32))) 4294967295) + (wrU ((andU xp 4294967295) * (shrU yp 32)))))) hE81 (y_assign rfl) rfl rfl rfl ?_; intro a82 hE83; clear hE81
  refine c_nil ?_
  have hE84 := hE83.sub (L' := [(0, .int .u64 xp), (1, .int .u64 yp), (7, .int .u64 (shrU xp 32)), (9, .int .u64 (shrU yp 32)), (12, .int .u64 (wrU ((andU (wrU ((wrU ((shrU xp 32) * (andU yp 4294967295))) + (shrU (wrU ((andU xp 4294967295) * (andU yp 4294967295))) 32))) 4294967295) + (wrU ((andU xp 4294967295) * (shrU yp 32)))))), (13, .int .u64 (shrU (wrU ((wrU ((shrU xp 32) * (andU yp 4294967295))) + (shrU (wrU ((andU xp 4294967295) * (andU yp 4294967295))) 32))) 32))]) ⟨rfl, rfl, rfl, rfl, rfl, rfl, trivial⟩; clear hE83
  refine p_tn ?_
  refine c_seq ?_
  refine c_reg ?_
  refine q_step (v := .int .u64 (shrU xp 32)) hE84 (y_move rfl) rfl rfl rfl ?_; intro a85 hE86; clear hE84
  refine q_step (v := .int .u64 (shrU yp 32)) hE86 (y_move rfl) rfl rfl rfl ?_; intro a87 hE88; clear hE86
  refine q_step (v := .int .u64 (wrU ((shrU xp 32) * (shrU yp 32)))) hE88 (y_mulU rfl rfl) rfl rfl rfl ?_; intro a89 hE90; clear hE88
  refine q_step (v := .int .u64 (shrU (wrU ((wrU ((shrU xp 32) * (andU yp 4294967295))) + (shrU (wrU ((andU xp 4294967295) * (andU yp 4294967295))) 32))) 32)) hE90 (y_move rfl) rfl rfl rfl ?_; intro a91 hE92; clear hE90
  refine q_step (v := .int .u64 (wrU ((wrU ((shrU xp 32) * (shrU yp 32))) + (shrU (wrU ((wrU ((shrU xp 32) * (andU yp 4294967295))) + (shrU (wrU ((andU xp 4294967295) * (andU yp 4294967295))) 32))) 32)))) hE92 (y_addU rfl rfl) rfl rfl rfl ?_; intro a93 hE94; clear hE92
  refine q_step (v := .int .u64 (wrU ((andU (wrU ((wrU ((shrU xp 32) * (andU yp 4294967295))) + (shrU (wrU ((andU xp 4294967295) * (andU yp 4294967295))) 32))) 4294967295) + (wrU ((andU xp 4294967295) * (shrU yp 32)))))) hE94 (y_move rfl) rfl rfl rfl ?_; intro a95 hE96; clear hE94
  refine q_step (v := .int .u64 (shrU (wrU ((andU (wrU ((wrU ((shrU xp 32) * (andU yp 4294967295))) + (shrU (wrU ((andU xp 4294967295) * (andU yp 4294967295))) 32))) 4294967295) + (wrU ((andU xp 4294967295) * (shrU yp 32))))) 32)) hE96 (y_shrU rfl rfl (by omega)) rfl rfl rfl ?_; intro a97 hE98; clear hE96
  refine q_step (v := .int .u64 (wrU ((wrU ((wrU ((shrU xp 32) * (shrU yp 32))) + (shrU (wrU ((wrU ((shrU xp 32) * (andU yp 4294967295))) + (shrU (wrU ((andU xp 4294967295) * (andU yp 4294967295))) 32))) 32))) + (shrU (wrU ((andU (wrU ((wrU ((shrU xp 32) * (andU yp 4294967295))) + (shrU (wrU ((andU xp 4294967295) * (andU yp 4294967295))) 32))) 4294967295) + (wrU ((andU xp 4294967295) * (shrU yp 32))))) 32)))) hE98 (y_addU rfl rfl) rfl rfl rfl ?_; intro a99 hE100; clear hE98
  refine q_step (v := .int .u64 (wrU ((wrU ((wrU ((shrU xp 32) * (shrU yp 32))) + (shrU (wrU ((wrU ((shrU xp 32) * (andU yp 4294967295))) + (shrU (wrU ((andU xp 4294967295) * (andU yp 4294967295))) 32))) 32))) + (shrU (wrU ((andU (wrU ((wrU ((shrU xp 32) * (andU yp 4294967295))) + (shrU (wrU ((andU xp 4294967295) * (andU yp 4294967295))) 32))) 4294967295) + (wrU ((andU xp 4294967295) * (shrU yp 32))))) 32)))) hE100 (y_assign rfl) rfl rfl rfl ?_; intro a101 hE102; clear hE100
  refine c_nil ?_
  have hE103 := hE102.sub (L' := [(0, .int .u64 xp), (1, .int .u64 yp), (4, .int .u64 (wrU ((wrU ((wrU ((shrU xp 32) * (shrU yp 32))) + (shrU (wrU ((wrU ((shrU xp 32) * (andU yp 4294967295))) + (shrU (wrU ((andU xp 4294967295) * (andU yp 4294967295))) 32))) 32))) + (shrU (wrU ((andU (wrU ((wrU ((shrU xp 32) * (andU yp 4294967295))) + (shrU (wrU ((andU xp 4294967295) * (andU yp 4294967295))) 32))) 4294967295) + (wrU ((andU xp 4294967295) * (shrU yp 32))))) 32))))]) ⟨rfl, rfl, rfl, trivial⟩; clear hE102
  refine p_tn ?_
  refine c_seq ?_
  refine c_reg ?_
  refine q_step (v := .int .u64 xp) hE103 (y_move rfl) rfl rfl rfl ?_; intro a104 hE105; clear hE103
  refine q_step (v := .int .u64 yp) hE105 (y_move rfl) rfl rfl rfl ?_; intro a106 hE107; clear hE105
  refine q_step (v := .int .u64 (wrU (xp * yp))) hE107 (y_mulU rfl rfl) rfl rfl rfl ?_; intro a108 hE109; clear hE107
  refine q_step (v := .int .u64 (wrU (xp * yp))) hE109 (y_assign rfl) rfl rfl rfl ?_; intro a110 hE111; clear hE109
  refine c_nil ?_
  have hE112 := hE111.sub (L' := [(4, .int .u64 (wrU ((wrU ((wrU ((shrU xp 32) * (shrU yp 32))) + (shrU (wrU ((wrU ((shrU xp 32) * (andU yp 4294967295))) + (shrU (wrU ((andU xp 4294967295) * (andU yp 4294967295))) 32))) 32))) + (shrU (wrU ((andU (wrU ((wrU ((shrU xp 32) * (andU yp 4294967295))) + (shrU (wrU ((andU xp 4294967295) * (andU yp 4294967295))) 32))) 4294967295) + (wrU ((andU xp 4294967295) * (shrU yp 32))))) 32)))), (5, .int .u64 (wrU (xp * yp)))]) ⟨rfl, rfl, trivial⟩; clear hE111
  refine p_tn ?_
  refine wp_ret ?_
  have hF : F_zb_Mul64 xp yp = (wrU ((wrU ((wrU ((shrU xp 32) * (shrU yp 32))) + (shrU (wrU ((wrU ((shrU xp 32) * (andU yp 4294967295))) + (shrU (wrU ((andU xp 4294967295) * (andU yp 4294967295))) 32))) 32))) + (shrU (wrU ((andU (wrU ((wrU ((shrU xp 32) * (andU yp 4294967295))) + (shrU (wrU ((andU xp 4294967295) * (andU yp 4294967295))) 32))) 4294967295) + (wrU ((andU xp 4294967295) * (shrU yp 32))))) 32)), wrU (xp * yp)) := by unfold F_zb_Mul64; rfl
  refine c_ret2 hE112 rfl rfl rfl ?_
  exact ⟨(by rw [hF]; first | done | (dsimp only; done) | rfl), rfl⟩
def F_zb_Mul (xp : Int) (yp : Int) : (Int) × (Int) :=
  ((F_zb_Mul64 xp yp).1, (F_zb_Mul64 xp yp).2)
theorem cf_zb_Mul (args : Array Value) (w : World) : (callFunc 218 args).run Try.prog w = .ok (.enter 218 args) w := by kernel_rfl
set_option maxRecDepth 100000 in
theorem c_zb_Mul (xp : Int) (yp : Int) (w : World) :
    Calls Try.prog 218 #[.int .u64 xp, .int .u64 yp] w (Ret fun v w' => v = .tuple #[.int .u64 ((F_zb_Mul xp yp).1), .int .u64 ((F_zb_Mul xp yp).2)] ∧ Ext w w') := by
  have hS := St.nil w
  refine enter (args := [.int .u64 xp, .int .u64 yp]) Try.func218 rfl rfl ?_
  rw [Try.ntmps218]; intro a hE
  have hE := hE.sub (L' := [(0, .int .u64 xp), (1, .int .u64 yp)]) ⟨rfl, rfl, trivial⟩
  refine c_seq ?_
  refine c_reg ?_
  refine q_step (v := .int .u64 0) hE (y_assign rfl) rfl rfl rfl ?_; intro a1 hE2; clear hE
  refine q_step (v := .int .u64 0) hE2 (y_assign rfl) rfl rfl rfl ?_; intro a3 hE4; clear hE2
  refine c_nil ?_
  have hE5 := hE4.sub (L' := [(0, .int .u64 xp), (1, .int .u64 yp)]) ⟨rfl, rfl, trivial⟩; clear hE4
  refine p_tn ?_
  refine c_seq ?_
  refine c_false hE5 rfl ?_
  refine wp_skip ?_
  refine p_tn ?_
  refine c_seq ?_
  refine c_reg ?_
  refine q_step (v := .int .u64 xp) hE5 (y_move rfl) rfl rfl rfl ?_; intro a6 hE7; clear hE5
  refine q_step (v := .int .u64 yp) hE7 (y_move rfl) rfl rfl rfl ?_; intro a8 hE9; clear hE7
  refine l_step hE9 rfl (l_call (f := 241) (argv := [.int .u64 xp, .int .u64 yp]) hE9 (fun _ => cf_zb_Mul64 _ _) rfl rfl (c_zb_Mul64 xp yp w) ?_)
  rintro _ _ ⟨rfl, rfl⟩ a12 hE13; clear hE9
  refine q_step (v := .tuple #[.int .u64 ((F_zb_Mul64 xp yp).1), .int .u64 ((F_zb_Mul64 xp yp).2)]) hE13 (y_move rfl) rfl rfl rfl ?_; intro a16 hE17; clear hE13
  refine q_step (v := .int .u64 ((F_zb_Mul64 xp yp).1)) hE17 (y_extract rfl rfl) rfl rfl rfl ?_; intro a18 hE19; clear hE17
  refine q_step (v := .int .u64 ((F_zb_Mul64 xp yp).2)) hE19 (y_extract rfl rfl) rfl rfl rfl ?_; intro a20 hE21; clear hE19
  refine q_step (v := .int .u64 ((F_zb_Mul64 xp yp).1)) hE21 (y_assign rfl) rfl rfl rfl ?_; intro a22 hE23; clear hE21
  refine q_step (v := .int .u64 ((F_zb_Mul64 xp yp).2)) hE23 (y_assign rfl) rfl rfl rfl ?_; intro a24 hE25; clear hE23
  refine c_nil ?_
  have hE26 := hE25.sub (L' := [(8, .int .u64 ((F_zb_Mul64 xp yp).1)), (9, .int .u64 ((F_zb_Mul64 xp yp).2))]) ⟨rfl, rfl, trivial⟩; clear hE25
  refine p_tn ?_
  refine c_seq ?_
  refine c_reg ?_
  refine q_step (v := .int .u64 ((F_zb_Mul64 xp yp).1)) hE26 (y_move rfl) rfl rfl rfl ?_; intro a27 hE28; clear hE26
  refine q_step (v := .int .u64 ((F_zb_Mul64 xp yp).2)) hE28 (y_move rfl) rfl rfl rfl ?_; intro a29 hE30; clear hE28
  refine q_step (v := .int .u64 ((F_zb_Mul64 xp yp).1)) hE30 (y_assign rfl) rfl rfl rfl ?_; intro a31 hE32; clear hE30
  refine q_step (v := .int .u64 ((F_zb_Mul64 xp yp).2)) hE32 (y_assign rfl) rfl rfl rfl ?_; intro a33 hE34; clear hE32
  refine c_nil ?_
  have hE35 := hE34.sub (L' := [(4, .int .u64 ((F_zb_Mul64 xp yp).1)), (5, .int .u64 ((F_zb_Mul64 xp yp).2))]) ⟨rfl, rfl, trivial⟩; clear hE34
  refine p_tn ?_
  refine wp_ret ?_
  have hF : F_zb_Mul xp yp = ((F_zb_Mul64 xp yp).1, (F_zb_Mul64 xp yp).2) := by unfold F_zb_Mul; rfl
  refine c_ret2 hE35 rfl rfl rfl ?_
  exact ⟨(by rw [hF]; first | done | (dsimp only; done) | rfl), hS.ext⟩
theorem bitsMulOne {n y : Int} (hn : n = 1) (h0 : 0 ≤ y) (h1 : y ≤ 8) : (F_zb_Mul n y).1 = 0 ∧ (F_zb_Mul n y).2 = y := by
  subst hn
  have : y = 0 ∨ y = 1 ∨ y = 2 ∨ y = 3 ∨ y = 4 ∨ y = 5 ∨ y = 6 ∨ y = 7 ∨ y = 8 := by omega
  rcases this with rfl | rfl | rfl | rfl | rfl | rfl | rfl | rfl | rfl <;> decide +kernel
def F_z_Repeat_L1b (xp : List Int) (count : Int) (rec : Int → (List Int) → Int × (List Int)) (n8 : Int) (newslice7 : List Int) : Int × (List Int) :=
  bif (decide (n8 < (Int.toNat ((F_zb_Mul (xp.length : Int) count).2) : Int))) then (rec (n8 + ((min ((slI 1 newslice7 (0 : Int) n8).length) ((slI 1 newslice7 n8 (Int.toNat ((F_zb_Mul (xp.length : Int) count).2) : Int)).length) : Nat) : Int)) (cpL newslice7 (slI 1 newslice7 (0 : Int) n8) (Int.toNat n8) (min ((slI 1 newslice7 (0 : Int) n8).length) ((slI 1 newslice7 n8 (Int.toNat ((F_zb_Mul (xp.length : Int) count).2) : Int)).length)))) else (n8, newslice7)
def F_z_Repeat_L1 (xp : List Int) (count : Int) : Nat → Int → (List Int) → Int × (List Int)
  | 0, n8, newslice7 => (n8, newslice7)
  | r + 1, n8, newslice7 => F_z_Repeat_L1b xp count (F_z_Repeat_L1 xp count r) n8 newslice7
def F_z_Repeat (xp : List Int) (count : Int) : List Int :=
  (F_z_Repeat_L1 xp count (Int.toNat (((cpL (List.replicate (Int.toNat ((F_zb_Mul (xp.length : Int) count).2)) 0) xp 0 (min xp.length (Int.toNat ((F_zb_Mul (xp.length : Int) count).2)))).length : Int) - ((min xp.length (Int.toNat ((F_zb_Mul (xp.length : Int) count).2)) : Nat) : Int)) + 1) ((min xp.length (Int.toNat ((F_zb_Mul (xp.length : Int) count).2)) : Nat) : Int) (cpL (List.replicate (Int.toNat ((F_zb_Mul (xp.length : Int) count).2)) 0) xp 0 (min xp.length (Int.toNat ((F_zb_Mul (xp.length : Int) count).2))))).2
theorem cf_z_Repeat (args : Array Value) (w : World) : (callFunc 169 args).run Try.prog w = .ok (.enter 169 args) w := by kernel_rfl
set_option maxRecDepth 100000 in
theorem c_z_Repeat (xpA : Option Addr) (xpN xpC : Nat) (xp : List Int) (count : Int) (w : World) (xpR : RdS w 1 xpA xpN xpC xp) (hx : xp.length = 1) (hc : 0 ≤ count ∧ count ≤ 8) :
    Calls Try.prog 169 #[.slice xpA xpN xpC, .int .i64 count] w (Ret fun v w' => ∃ b1 : Option Addr, ∃ c1 : Nat, v = .slice b1 (F_z_Repeat xp count).length c1 ∧ OwnS w' w.heap.size 2 1 b1 (F_z_Repeat xp count).length c1 (F_z_Repeat xp count) ∧ Ext w w') := by
  obtain rfl : xpN = xp.length := xpR.len1.symm
  have xpLe := xpR.le
  have hS := St.nil w
  have hS1 := St.rd0 hS rfl xpR; clear hS
  refine enter (args := [.slice xpA xp.length xpC, .int .i64 count]) Try.func169 rfl rfl ?_
  rw [Try.ntmps169]; intro a hE
  have hE := hE.sub (L' := [(0, .slice xpA xp.length xpC), (1, .int .i64 count)]) ⟨rfl, rfl, trivial⟩
  refine c_seq ?_
  refine c_reg ?_
  refine q_step (v := .slice none 0 0) hE (y_assign rfl) rfl rfl rfl ?_; intro a2 hE3; clear hE
  refine c_nil ?_
  have hE4 := hE3.sub (L' := [(0, .slice xpA xp.length xpC), (1, .int .i64 count)]) ⟨rfl, rfl, trivial⟩; clear hE3
  refine p_tn ?_
  refine c_seq ?_
  refine c_seq ?_
  refine c_reg ?_
  refine q_step (v := .int .i64 count) hE4 (y_move rfl) rfl rfl rfl ?_; intro a5 hE6; clear hE4
  refine q_step (v := .bool (decide (count < 0))) hE6 (y_lss rfl rfl) rfl rfl rfl ?_; intro a7 hE8; clear hE6
  refine c_nil ?_
  have hE9 := hE8.sub (L' := [(0, .slice xpA xp.length xpC), (1, .int .i64 count), (10, .bool (decide (count < 0)))]) ⟨rfl, rfl, rfl, trivial⟩; clear hE8
  refine p_tn ?_
  refine c_cond hE9 rfl (fun ht10 => ?_) (fun ht10 => ?_)
  ·
   have hp11 := of_decide_eq_true ht10
   exfalso; omega
  ·
   have hp12 := of_decide_eq_false ht10
   have hE13 := hE9; rw [ht10] at hE13; clear hE9
   refine wp_skip ?_
   refine p_tn ?_
   refine c_seq ?_
   refine c_reg ?_
   refine q_step (v := .slice xpA xp.length xpC) hE13 (y_move rfl) rfl rfl rfl ?_; intro a14 hE15; clear hE13
   refine q_step (v := .int .i64 (xp.length : Int)) hE15 (y_len (e := 2) (by kernel_rfl) rfl) rfl rfl rfl ?_; intro a16 hE17; clear hE15
   refine q_step (v := .int .u64 (xp.length : Int)) hE17 (y_conv (ds := .int .i64) (by kernel_rfl) (by kernel_rfl) rfl (wU64 (by omega) (by omega))) rfl rfl rfl ?_; intro a18 hE19; clear hE17
   refine q_step (v := .int .i64 count) hE19 (y_move rfl) rfl rfl rfl ?_; intro a20 hE21; clear hE19
   refine q_step (v := .int .u64 count) hE21 (y_conv (ds := .int .i64) (by kernel_rfl) (by kernel_rfl) rfl (wU64 (by omega) (by omega))) rfl rfl rfl ?_; intro a22 hE23; clear hE21
   refine l_step hE23 rfl (l_call (f := 218) (argv := [.int .u64 (xp.length : Int), .int .u64 count]) hE23 (fun _ => cf_zb_Mul _ _) rfl rfl (c_zb_Mul (xp.length : Int) count w) ?_)
   rintro _ w25 ⟨rfl, he29⟩ a26 hE27; clear hE23
   have hmul := bitsMulOne (n := (xp.length : Int)) (y := count) (by omega) (by omega) (by omega)
   have hS28 := St.go hS1 he29; clear hS1
   refine q_step (v := .tuple #[.int .u64 ((F_zb_Mul (xp.length : Int) count).1), .int .u64 ((F_zb_Mul (xp.length : Int) count).2)]) hE27 (y_move rfl) rfl rfl rfl ?_; intro a30 hE31; clear hE27
   refine q_step (v := .int .u64 ((F_zb_Mul (xp.length : Int) count).1)) hE31 (y_extract rfl rfl) rfl rfl rfl ?_; intro a32 hE33; clear hE31
   refine q_step (v := .int .u64 ((F_zb_Mul (xp.length : Int) count).2)) hE33 (y_extract rfl rfl) rfl rfl rfl ?_; intro a34 hE35; clear hE33
   refine q_step (v := .int .u64 ((F_zb_Mul (xp.length : Int) count).1)) hE35 (y_assign rfl) rfl rfl rfl ?_; intro a36 hE37; clear hE35
   refine q_step (v := .int .u64 ((F_zb_Mul (xp.length : Int) count).2)) hE37 (y_assign rfl) rfl rfl rfl ?_; intro a38 hE39; clear hE37
   refine c_nil ?_
   have hE40 := hE39.sub (L' := [(0, .slice xpA xp.length xpC), (5, .int .u64 ((F_zb_Mul (xp.length : Int) count).1)), (6, .int .u64 ((F_zb_Mul (xp.length : Int) count).2))]) ⟨rfl, rfl, rfl, trivial⟩; clear hE39
   refine p_tn ?_
   refine c_seq ?_
   refine c_seq ?_
   refine c_reg ?_
   refine q_step (v := .int .u64 ((F_zb_Mul (xp.length : Int) count).1)) hE40 (y_move rfl) rfl rfl rfl ?_; intro a41 hE42; clear hE40
   refine q_step (v := .bool (decide (0 < ((F_zb_Mul (xp.length : Int) count).1)))) hE42 (y_gtr rfl rfl) rfl rfl rfl ?_; intro a43 hE44; clear hE42
   refine q_step (v := .bool (decide (0 < ((F_zb_Mul (xp.length : Int) count).1)))) hE44 (y_move rfl) rfl rfl rfl ?_; intro a45 hE46; clear hE44
   rcases Bool.eq_false_or_eq_true (decide (0 < ((F_zb_Mul (xp.length : Int) count).1))) with hb47 | hb47
   ·
    have hE48 := hE46; (try rw [hb47] at hE48); clear hE46
    have hp49 := of_decide_eq_true hb47
    refine q_skip hE48 rfl rfl rfl ?_; intro a50 hE51; clear hE48
    refine q_skip hE51 rfl rfl rfl ?_; intro a52 hE53; clear hE51
    refine q_step (v := .bool true) hE53 (y_pick (b := true) rfl rfl) rfl rfl rfl ?_; intro a54 hE55; clear hE53
    refine c_nil ?_
    have hE56 := hE55.sub (L' := [(0, .slice xpA xp.length xpC), (6, .int .u64 ((F_zb_Mul (xp.length : Int) count).2)), (26, .bool true)]) ⟨rfl, rfl, rfl, trivial⟩; clear hE55
    refine p_tn ?_
    exfalso; omega
   ·
    have hE57 := hE46; (try rw [hb47] at hE57); clear hE46
    have hp58 := of_decide_eq_false hb47
    refine q_step (v := .int .u64 ((F_zb_Mul (xp.length : Int) count).2)) hE57 (y_move rfl) rfl rfl rfl ?_; intro a59 hE60; clear hE57
    refine q_step (v := .bool (decide (9223372036854775807 < ((F_zb_Mul (xp.length : Int) count).2)))) hE60 (y_gtr rfl rfl) rfl rfl rfl ?_; intro a61 hE62; clear hE60
    refine q_step (v := .bool (decide (9223372036854775807 < ((F_zb_Mul (xp.length : Int) count).2)))) hE62 (y_pick (b := false) rfl rfl) rfl rfl rfl ?_; intro a63 hE64; clear hE62
    refine c_nil ?_
    have hE65 := hE64.sub (L' := [(0, .slice xpA xp.length xpC), (6, .int .u64 ((F_zb_Mul (xp.length : Int) count).2)), (26, .bool (decide (9223372036854775807 < ((F_zb_Mul (xp.length : Int) count).2))))]) ⟨rfl, rfl, rfl, trivial⟩; clear hE64
    refine p_tn ?_
    refine c_cond hE65 rfl (fun ht66 => ?_) (fun ht66 => ?_)
    ·
     have hp67 := of_decide_eq_true ht66
     exfalso; omega
    ·
     have hp68 := of_decide_eq_false ht66
     have hE69 := hE65; rw [ht66] at hE69; clear hE65
     refine wp_skip ?_
     refine p_tn ?_
     refine c_seq ?_
     refine c_reg ?_
     refine q_step (v := .int .u64 ((F_zb_Mul (xp.length : Int) count).2)) hE69 (y_move rfl) rfl rfl rfl ?_; intro a70 hE71; clear hE69
     refine q_step (v := .int .i64 ((F_zb_Mul (xp.length : Int) count).2)) hE71 (y_conv (ds := .int .u64) (by kernel_rfl) (by kernel_rfl) rfl (IntWalk.i64_in _ ⟨(by omega), (by omega)⟩)) rfl rfl rfl ?_; intro a72 hE73; clear hE71
     refine l_step hE73 rfl (l_make (e := 2) (m := (F_zb_Mul (xp.length : Int) count).2) hS28 hE73 (by kernel_rfl) (by kernel_rfl) rfl rfl (by omega) (by omega) rfl ?_)
     intro b74 w75 hS78 he79 a76 hE77; clear hS28 hE73
     refine q_step (v := .slice b74 (Int.toNat ((F_zb_Mul (xp.length : Int) count).2)) (Int.toNat ((F_zb_Mul (xp.length : Int) count).2))) hE77 (y_assign rfl) rfl rfl rfl ?_; intro a80 hE81; clear hE77
     refine c_nil ?_
     have hE82 := hE81.sub (L' := [(0, .slice xpA xp.length xpC), (7, .slice b74 (Int.toNat ((F_zb_Mul (xp.length : Int) count).2)) (Int.toNat ((F_zb_Mul (xp.length : Int) count).2)))]) ⟨rfl, rfl, trivial⟩; clear hE81
     refine p_tn ?_
     refine c_seq ?_
     refine c_reg ?_
     refine q_step (v := .slice b74 (Int.toNat ((F_zb_Mul (xp.length : Int) count).2)) (Int.toNat ((F_zb_Mul (xp.length : Int) count).2))) hE82 (y_move rfl) rfl rfl rfl ?_; intro a83 hE84; clear hE82
     refine q_step (v := .slice xpA xp.length xpC) hE84 (y_move rfl) rfl rfl rfl ?_; intro a85 hE86; clear hE84
     have hv93 := (St.rdO (i := 0) hS78 rfl).len1
     have hv94 := (St.rdR (i := 1) hS78 rfl).len1
     refine l_step hE86 rfl (l_copy (k := 0) (m := 0) (q := min xp.length (Int.toNat ((F_zb_Mul (xp.length : Int) count).2))) hS78 hE86 (by kernel_rfl) (by kernel_rfl) rfl (.inr ⟨rfl, rfl⟩) rfl rfl (St.rdR (i := 1) hS78 rfl) (by omega) rfl rfl ?_)
     intro w88 hS91 a89 hE90; clear hS78 hE86
     have hv95 : (cpL (List.replicate (Int.toNat ((F_zb_Mul (xp.length : Int) count).2)) 0) xp 0 (min xp.length (Int.toNat ((F_zb_Mul (xp.length : Int) count).2)))).length = (List.replicate (Int.toNat ((F_zb_Mul (xp.length : Int) count).2)) 0 : List Int).length := cpL_len (xs := List.replicate (Int.toNat ((F_zb_Mul (xp.length : Int) count).2)) 0) (ys := xp) (m := 0) (q := min xp.length (Int.toNat ((F_zb_Mul (xp.length : Int) count).2))) (by omega) (by omega)
     refine q_step (v := .int .i64 ((min xp.length (Int.toNat ((F_zb_Mul (xp.length : Int) count).2)) : Nat) : Int)) hE90 (y_assign rfl) rfl rfl rfl ?_; intro a96 hE97; clear hE90
     refine c_nil ?_
     have hE98 := hE97.sub (L' := [(7, .slice b74 (Int.toNat ((F_zb_Mul (xp.length : Int) count).2)) (Int.toNat ((F_zb_Mul (xp.length : Int) count).2))), (8, .int .i64 ((min xp.length (Int.toNat ((F_zb_Mul (xp.length : Int) count).2)) : Nat) : Int))]) ⟨rfl, rfl, trivial⟩; clear hE97
     refine p_tn ?_
     refine c_cut (fun a' w' => (0 ≤ ((F_z_Repeat_L1 xp count (Int.toNat (((cpL (List.replicate (Int.toNat ((F_zb_Mul (xp.length : Int) count).2)) 0) xp 0 (min xp.length (Int.toNat ((F_zb_Mul (xp.length : Int) count).2)))).length : Int) - ((min xp.length (Int.toNat ((F_zb_Mul (xp.length : Int) count).2)) : Nat) : Int)) + 1) ((min xp.length (Int.toNat ((F_zb_Mul (xp.length : Int) count).2)) : Nat) : Int) (cpL (List.replicate (Int.toNat ((F_zb_Mul (xp.length : Int) count).2)) 0) xp 0 (min xp.length (Int.toNat ((F_zb_Mul (xp.length : Int) count).2))))).1)) ∧ (((F_z_Repeat_L1 xp count (Int.toNat (((cpL (List.replicate (Int.toNat ((F_zb_Mul (xp.length : Int) count).2)) 0) xp 0 (min xp.length (Int.toNat ((F_zb_Mul (xp.length : Int) count).2)))).length : Int) - ((min xp.length (Int.toNat ((F_zb_Mul (xp.length : Int) count).2)) : Nat) : Int)) + 1) ((min xp.length (Int.toNat ((F_zb_Mul (xp.length : Int) count).2)) : Nat) : Int) (cpL (List.replicate (Int.toNat ((F_zb_Mul (xp.length : Int) count).2)) 0) xp 0 (min xp.length (Int.toNat ((F_zb_Mul (xp.length : Int) count).2))))).1) ≤ (((F_z_Repeat_L1 xp count (Int.toNat (((cpL (List.replicate (Int.toNat ((F_zb_Mul (xp.length : Int) count).2)) 0) xp 0 (min xp.length (Int.toNat ((F_zb_Mul (xp.length : Int) count).2)))).length : Int) - ((min xp.length (Int.toNat ((F_zb_Mul (xp.length : Int) count).2)) : Nat) : Int)) + 1) ((min xp.length (Int.toNat ((F_zb_Mul (xp.length : Int) count).2)) : Nat) : Int) (cpL (List.replicate (Int.toNat ((F_zb_Mul (xp.length : Int) count).2)) 0) xp 0 (min xp.length (Int.toNat ((F_zb_Mul (xp.length : Int) count).2))))).2).length : Int)) ∧ (1 ≤ ((F_z_Repeat_L1 xp count (Int.toNat (((cpL (List.replicate (Int.toNat ((F_zb_Mul (xp.length : Int) count).2)) 0) xp 0 (min xp.length (Int.toNat ((F_zb_Mul (xp.length : Int) count).2)))).length : Int) - ((min xp.length (Int.toNat ((F_zb_Mul (xp.length : Int) count).2)) : Nat) : Int)) + 1) ((min xp.length (Int.toNat ((F_zb_Mul (xp.length : Int) count).2)) : Nat) : Int) (cpL (List.replicate (Int.toNat ((F_zb_Mul (xp.length : Int) count).2)) 0) xp 0 (min xp.length (Int.toNat ((F_zb_Mul (xp.length : Int) count).2))))).1) ∨ ((F_z_Repeat_L1 xp count (Int.toNat (((cpL (List.replicate (Int.toNat ((F_zb_Mul (xp.length : Int) count).2)) 0) xp 0 (min xp.length (Int.toNat ((F_zb_Mul (xp.length : Int) count).2)))).length : Int) - ((min xp.length (Int.toNat ((F_zb_Mul (xp.length : Int) count).2)) : Nat) : Int)) + 1) ((min xp.length (Int.toNat ((F_zb_Mul (xp.length : Int) count).2)) : Nat) : Int) (cpL (List.replicate (Int.toNat ((F_zb_Mul (xp.length : Int) count).2)) 0) xp 0 (min xp.length (Int.toNat ((F_zb_Mul (xp.length : Int) count).2))))).2).length = 0) ∧ ((((F_z_Repeat_L1 xp count (Int.toNat (((cpL (List.replicate (Int.toNat ((F_zb_Mul (xp.length : Int) count).2)) 0) xp 0 (min xp.length (Int.toNat ((F_zb_Mul (xp.length : Int) count).2)))).length : Int) - ((min xp.length (Int.toNat ((F_zb_Mul (xp.length : Int) count).2)) : Nat) : Int)) + 1) ((min xp.length (Int.toNat ((F_zb_Mul (xp.length : Int) count).2)) : Nat) : Int) (cpL (List.replicate (Int.toNat ((F_zb_Mul (xp.length : Int) count).2)) 0) xp 0 (min xp.length (Int.toNat ((F_zb_Mul (xp.length : Int) count).2))))).2).length : Int) = count) ∧ E a' 48 [(7, .slice b74 (Int.toNat ((F_zb_Mul (xp.length : Int) count).2)) (Int.toNat ((F_zb_Mul (xp.length : Int) count).2))), (8, .int .i64 ((F_z_Repeat_L1 xp count (Int.toNat (((cpL (List.replicate (Int.toNat ((F_zb_Mul (xp.length : Int) count).2)) 0) xp 0 (min xp.length (Int.toNat ((F_zb_Mul (xp.length : Int) count).2)))).length : Int) - ((min xp.length (Int.toNat ((F_zb_Mul (xp.length : Int) count).2)) : Nat) : Int)) + 1) ((min xp.length (Int.toNat ((F_zb_Mul (xp.length : Int) count).2)) : Nat) : Int) (cpL (List.replicate (Int.toNat ((F_zb_Mul (xp.length : Int) count).2)) 0) xp 0 (min xp.length (Int.toNat ((F_zb_Mul (xp.length : Int) count).2))))).1))] ∧ St w w' [.own 2 1 b74 (Int.toNat ((F_zb_Mul (xp.length : Int) count).2)) (Int.toNat ((F_zb_Mul (xp.length : Int) count).2)) ((F_z_Repeat_L1 xp count (Int.toNat (((cpL (List.replicate (Int.toNat ((F_zb_Mul (xp.length : Int) count).2)) 0) xp 0 (min xp.length (Int.toNat ((F_zb_Mul (xp.length : Int) count).2)))).length : Int) - ((min xp.length (Int.toNat ((F_zb_Mul (xp.length : Int) count).2)) : Nat) : Int)) + 1) ((min xp.length (Int.toNat ((F_zb_Mul (xp.length : Int) count).2)) : Nat) : Int) (cpL (List.replicate (Int.toNat ((F_zb_Mul (xp.length : Int) count).2)) 0) xp 0 (min xp.length (Int.toNat ((F_zb_Mul (xp.length : Int) count).2))))).2), .rd 1 xpA xp.length xpC xp]) ?_ ?_
     ·
      refine wp_block ?_
      refine c_loop (fun r a' w' => ∃ n8 : Int, ∃ newslice7 : List Int, F_z_Repeat_L1 xp count r n8 newslice7 = F_z_Repeat_L1 xp count (Int.toNat (((cpL (List.replicate (Int.toNat ((F_zb_Mul (xp.length : Int) count).2)) 0) xp 0 (min xp.length (Int.toNat ((F_zb_Mul (xp.length : Int) count).2)))).length : Int) - ((min xp.length (Int.toNat ((F_zb_Mul (xp.length : Int) count).2)) : Nat) : Int)) + 1) ((min xp.length (Int.toNat ((F_zb_Mul (xp.length : Int) count).2)) : Nat) : Int) (cpL (List.replicate (Int.toNat ((F_zb_Mul (xp.length : Int) count).2)) 0) xp 0 (min xp.length (Int.toNat ((F_zb_Mul (xp.length : Int) count).2)))) ∧ Int.toNat ((newslice7.length : Int) - n8) < r ∧ (0 ≤ n8) ∧ (n8 ≤ (newslice7.length : Int)) ∧ (1 ≤ n8 ∨ newslice7.length = 0) ∧ ((newslice7.length : Int) = count) ∧ E a' 48 [(7, .slice b74 (Int.toNat ((F_zb_Mul (xp.length : Int) count).2)) (Int.toNat ((F_zb_Mul (xp.length : Int) count).2))), (8, .int .i64 n8)] ∧ St w w' [.own 2 1 b74 (Int.toNat ((F_zb_Mul (xp.length : Int) count).2)) (Int.toNat ((F_zb_Mul (xp.length : Int) count).2)) newslice7, .rd 1 xpA xp.length xpC xp]) (r := (Int.toNat (((cpL (List.replicate (Int.toNat ((F_zb_Mul (xp.length : Int) count).2)) 0) xp 0 (min xp.length (Int.toNat ((F_zb_Mul (xp.length : Int) count).2)))).length : Int) - ((min xp.length (Int.toNat ((F_zb_Mul (xp.length : Int) count).2)) : Nat) : Int)) + 1)) ?_ ?_
      · exact ⟨((min xp.length (Int.toNat ((F_zb_Mul (xp.length : Int) count).2)) : Nat) : Int), cpL (List.replicate (Int.toNat ((F_zb_Mul (xp.length : Int) count).2)) 0) xp 0 (min xp.length (Int.toNat ((F_zb_Mul (xp.length : Int) count).2))), rfl, Nat.lt_succ_self _, (by first | omega | (simp only [sS_len, sL_len]; omega) | (simp only [List.length_replicate, sI_len]; omega) | (simp only [List.length_append, List.length_cons, List.length_nil, sI_len, cond_true, cond_false]; omega) | (simp only [List.length_append, List.length_cons, List.length_nil, sI_len, cond_eq_ite, apply_ite List.length]; split <;> simp only [List.length_append, List.length_cons, List.length_nil, sI_len] <;> omega) | grind), (by first | omega | (simp only [sS_len, sL_len]; omega) | (simp only [List.length_replicate, sI_len]; omega) | (simp only [List.length_append, List.length_cons, List.length_nil, sI_len, cond_true, cond_false]; omega) | (simp only [List.length_append, List.length_cons, List.length_nil, sI_len, cond_eq_ite, apply_ite List.length]; split <;> simp only [List.length_append, List.length_cons, List.length_nil, sI_len] <;> omega) | grind), (by first | omega | (simp only [sS_len, sL_len]; omega) | (simp only [List.length_replicate, sI_len]; omega) | (simp only [List.length_append, List.length_cons, List.length_nil, sI_len, cond_true, cond_false]; omega) | (simp only [List.length_append, List.length_cons, List.length_nil, sI_len, cond_eq_ite, apply_ite List.length]; split <;> simp only [List.length_append, List.length_cons, List.length_nil, sI_len] <;> omega) | grind), (by first | omega | (simp only [sS_len, sL_len]; omega) | (simp only [List.length_replicate, sI_len]; omega) | (simp only [List.length_append, List.length_cons, List.length_nil, sI_len, cond_true, cond_false]; omega) | (simp only [List.length_append, List.length_cons, List.length_nil, sI_len, cond_eq_ite, apply_ite List.length]; split <;> simp only [List.length_append, List.length_cons, List.length_nil, sI_len] <;> omega) | grind), (hE98.sub (L' := [(7, .slice b74 (Int.toNat ((F_zb_Mul (xp.length : Int) count).2)) (Int.toNat ((F_zb_Mul (xp.length : Int) count).2))), (8, .int .i64 ((min xp.length (Int.toNat ((F_zb_Mul (xp.length : Int) count).2)) : Nat) : Int))]) ⟨rfl, rfl, trivial⟩), (St.pick (Γ' := [.own 2 1 b74 (Int.toNat ((F_zb_Mul (xp.length : Int) count).2)) (Int.toNat ((F_zb_Mul (xp.length : Int) count).2)) (cpL (List.replicate (Int.toNat ((F_zb_Mul (xp.length : Int) count).2)) 0) xp 0 (min xp.length (Int.toNat ((F_zb_Mul (xp.length : Int) count).2)))), .rd 1 xpA xp.length xpC xp]) hS91 [0, 1] (by decide) rfl)⟩
      ·
       clear hE98 hS91
       rintro r110 a100 w101 ⟨n8, newslice7, hT104, hr105, hi106, hi107, hi108, hi109, hE102, hS103⟩
       obtain ⟨r110, rfl⟩ : ∃ r', r110 = r' + 1 := ⟨r110 - 1, by omega⟩
       refine c_seq ?_
       refine c_seq ?_
       refine c_reg ?_
       refine q_step (v := .int .i64 n8) hE102 (y_move rfl) rfl rfl rfl ?_; intro a111 hE112; clear hE102
       refine q_step (v := .slice b74 (Int.toNat ((F_zb_Mul (xp.length : Int) count).2)) (Int.toNat ((F_zb_Mul (xp.length : Int) count).2))) hE112 (y_move rfl) rfl rfl rfl ?_; intro a113 hE114; clear hE112
       refine q_step (v := .int .i64 (Int.toNat ((F_zb_Mul (xp.length : Int) count).2) : Int)) hE114 (y_len (e := 2) (by kernel_rfl) rfl) rfl rfl rfl ?_; intro a115 hE116; clear hE114
       refine q_step (v := .bool (decide (n8 < (Int.toNat ((F_zb_Mul (xp.length : Int) count).2) : Int)))) hE116 (y_lss rfl rfl) rfl rfl rfl ?_; intro a117 hE118; clear hE116
       refine c_nil ?_
       have hE119 := hE118.sub (L' := [(7, .slice b74 (Int.toNat ((F_zb_Mul (xp.length : Int) count).2)) (Int.toNat ((F_zb_Mul (xp.length : Int) count).2))), (8, .int .i64 n8), (37, .bool (decide (n8 < (Int.toNat ((F_zb_Mul (xp.length : Int) count).2) : Int))))]) ⟨rfl, rfl, rfl, trivial⟩; clear hE118
       refine p_tn ?_
       refine c_cond hE119 rfl (fun ht120 => ?_) (fun ht120 => ?_)
       ·
        have hp121 := of_decide_eq_true ht120
        have hE122 := hE119; rw [ht120] at hE122; clear hE119
        refine wp_skip ?_
        refine p_tn ?_
        refine wp_block ?_
        refine d_start (fun _ _ => True) [] 10 (by kernel_rfl) rfl ?_
        intro w123 he124; have hS125 := St.go hS103 he124; clear hS103
        refine d_pure (fun _ => trivial) (v := .int .i64 n8) 0 rfl hE122 (y_move rfl) rfl (by kernel_rfl) (by kernel_rfl) (by kernel_rfl) rfl rfl (fun _ _ _ h => h) ?_; intro a126 hE127; clear hE122
        refine d_pure (fun _ => trivial) (v := .slice b74 (Int.toNat ((F_zb_Mul (xp.length : Int) count).2)) (Int.toNat ((F_zb_Mul (xp.length : Int) count).2))) 1 rfl hE127 (y_move rfl) rfl (by kernel_rfl) (by kernel_rfl) (by kernel_rfl) rfl rfl (fun _ _ _ h => h) ?_; intro a128 hE129; clear hE127
        refine d_pure (fun _ => trivial) (v := .int .i64 n8) 2 rfl hE129 (y_move rfl) rfl (by kernel_rfl) (by kernel_rfl) (by kernel_rfl) rfl rfl (fun _ _ _ h => h) ?_; intro a130 hE131; clear hE129
        have hv133 := (St.rdO (i := 0) hS125 rfl).2.1
        have hv132 : (0 : Int) ≤ n8 ∧ n8 ≤ (Int.toNat ((F_zb_Mul (xp.length : Int) count).2) : Int) ∧ (Int.toNat ((F_zb_Mul (xp.length : Int) count).2) : Int) ≤ (Int.toNat ((F_zb_Mul (xp.length : Int) count).2) : Int) := ⟨(by omega), (by omega), (by omega)⟩
        have hv134 : Int.toNat (Int.toNat ((F_zb_Mul (xp.length : Int) count).2) : Int) - Int.toNat n8 = (slI 1 newslice7 n8 (Int.toNat ((F_zb_Mul (xp.length : Int) count).2) : Int)).length := Eq.symm (by have := slI_lenD (s := 1) (l := n8) (by decide) (St.rdO (i := 0) hS125 rfl).1 hv132.2.2; rwa [Nat.div_one] at this)
        have hv135 : Int.toNat (Int.toNat ((F_zb_Mul (xp.length : Int) count).2) : Int) ≤ (Int.toNat ((F_zb_Mul (xp.length : Int) count).2)) ∧ (Int.toNat ((F_zb_Mul (xp.length : Int) count).2)) ≤ (Int.toNat ((F_zb_Mul (xp.length : Int) count).2)) := ⟨by omega, Nat.le_refl _⟩
        refine d_pure (fun _ => trivial) (v := .slice (subA b74 (Int.toNat n8) (Int.toNat ((F_zb_Mul (xp.length : Int) count).2)) 1) ((slI 1 newslice7 n8 (Int.toNat ((F_zb_Mul (xp.length : Int) count).2) : Int)).length) ((Int.toNat ((F_zb_Mul (xp.length : Int) count).2)) - Int.toNat n8)) 3 rfl hE131 (y_sliceL (by kernel_rfl) (fun _ => by kernel_rfl) rfl rfl hv132.1 hv132.2.1 (by have h := hv134; omega) rfl) rfl (by kernel_rfl) (by kernel_rfl) (by kernel_rfl) rfl rfl (fun _ _ _ h => h) ?_; intro a136 hE137; clear hE131
        refine d_pure (fun _ => trivial) (v := .slice b74 (Int.toNat ((F_zb_Mul (xp.length : Int) count).2)) (Int.toNat ((F_zb_Mul (xp.length : Int) count).2))) 4 rfl hE137 (y_move rfl) rfl (by kernel_rfl) (by kernel_rfl) (by kernel_rfl) rfl rfl (fun _ _ _ h => h) ?_; intro a138 hE139; clear hE137
        refine d_pure (fun _ => trivial) (v := .int .i64 n8) 5 rfl hE139 (y_move rfl) rfl (by kernel_rfl) (by kernel_rfl) (by kernel_rfl) rfl rfl (fun _ _ _ h => h) ?_; intro a140 hE141; clear hE139
        have hv143 := (St.rdO (i := 0) hS125 rfl).2.1
        have hv142 : (0 : Int) ≤ (0 : Int) ∧ (0 : Int) ≤ n8 ∧ n8 ≤ (Int.toNat ((F_zb_Mul (xp.length : Int) count).2) : Int) := ⟨(by omega), (by omega), (by omega)⟩
        have hv144 : Int.toNat n8 - Int.toNat (0 : Int) = (slI 1 newslice7 (0 : Int) n8).length := Eq.symm (by have := slI_lenD (s := 1) (l := (0 : Int)) (by decide) (St.rdO (i := 0) hS125 rfl).1 hv142.2.2; rwa [Nat.div_one] at this)
        have hv145 : Int.toNat n8 ≤ (Int.toNat ((F_zb_Mul (xp.length : Int) count).2)) ∧ (Int.toNat ((F_zb_Mul (xp.length : Int) count).2)) ≤ (Int.toNat ((F_zb_Mul (xp.length : Int) count).2)) := ⟨by omega, Nat.le_refl _⟩
        refine d_pure (fun _ => trivial) (v := .slice (subA b74 (Int.toNat (0 : Int)) (Int.toNat ((F_zb_Mul (xp.length : Int) count).2)) 1) ((slI 1 newslice7 (0 : Int) n8).length) ((Int.toNat ((F_zb_Mul (xp.length : Int) count).2)) - Int.toNat (0 : Int))) 6 rfl hE141 (y_sliceH (by kernel_rfl) (fun _ => by kernel_rfl) rfl rfl hv142.2.1 (by omega) (by have h := hv144; omega)) rfl (by kernel_rfl) (by kernel_rfl) (by kernel_rfl) rfl rfl (fun _ _ _ h => h) ?_; intro a146 hE147; clear hE141
        have hv154 := (St.rdO (i := 0) hS125 rfl).len1
        have hv155 := (RdS.sub (St.rdO (i := 0) hS125 rfl) (Int.toNat ((F_zb_Mul (xp.length : Int) count).2)) hv142.1 hv142.2.1 hv142.2.2 hv145.1 hv145.2 hv144 rfl).len1
        refine d_only 7 (by kernel_rfl) rfl hE147 rfl (l_copy (k := 0) (m := (Int.toNat n8)) (q := min ((slI 1 newslice7 (0 : Int) n8).length) ((slI 1 newslice7 n8 (Int.toNat ((F_zb_Mul (xp.length : Int) count).2) : Int)).length)) hS125 hE147 (by kernel_rfl) (by kernel_rfl) rfl (.inl rfl) rfl rfl (RdS.sub (St.rdO (i := 0) hS125 rfl) (Int.toNat ((F_zb_Mul (xp.length : Int) count).2)) hv142.1 hv142.2.1 hv142.2.2 hv145.1 hv145.2 hv144 rfl) (by omega) rfl rfl ?_)
        intro w149 hS152 a150 hE151; clear hS125 hE147
        have hv156 : (cpL newslice7 (slI 1 newslice7 (0 : Int) n8) (Int.toNat n8) (min ((slI 1 newslice7 (0 : Int) n8).length) ((slI 1 newslice7 n8 (Int.toNat ((F_zb_Mul (xp.length : Int) count).2) : Int)).length))).length = (newslice7 : List Int).length := cpL_len (xs := newslice7) (ys := slI 1 newslice7 (0 : Int) n8) (m := (Int.toNat n8)) (q := min ((slI 1 newslice7 (0 : Int) n8).length) ((slI 1 newslice7 n8 (Int.toNat ((F_zb_Mul (xp.length : Int) count).2) : Int)).length)) (by omega) (by omega)
        refine ⟨fun _ => trivial, ?_⟩
        refine d_pure (fun _ => trivial) (v := .int .i64 (n8 + ((min ((slI 1 newslice7 (0 : Int) n8).length) ((slI 1 newslice7 n8 (Int.toNat ((F_zb_Mul (xp.length : Int) count).2) : Int)).length) : Nat) : Int))) 8 rfl hE151 (y_add rfl rfl ⟨(by omega), (by omega)⟩) rfl (by kernel_rfl) (by kernel_rfl) (by kernel_rfl) rfl rfl (fun _ _ _ h => h) ?_; intro a157 hE158; clear hE151
        refine d_pure (fun _ => trivial) (v := .int .i64 (n8 + ((min ((slI 1 newslice7 (0 : Int) n8).length) ((slI 1 newslice7 n8 (Int.toNat ((F_zb_Mul (xp.length : Int) count).2) : Int)).length) : Nat) : Int))) 9 rfl hE158 (y_assign rfl) rfl (by kernel_rfl) (by kernel_rfl) (by kernel_rfl) rfl rfl (fun _ _ _ h => h) ?_; intro a159 hE160; clear hE158
        refine d_done (by kernel_rfl) ?_
        have hE161 := hE160.sub (L' := [(7, .slice b74 (Int.toNat ((F_zb_Mul (xp.length : Int) count).2)) (Int.toNat ((F_zb_Mul (xp.length : Int) count).2))), (8, .int .i64 (n8 + ((min ((slI 1 newslice7 (0 : Int) n8).length) ((slI 1 newslice7 n8 (Int.toNat ((F_zb_Mul (xp.length : Int) count).2) : Int)).length) : Nat) : Int)))]) ⟨rfl, rfl, trivial⟩; clear hE160
        refine p_bn ?_
        refine p_tn ⟨r110, Nat.lt_succ_self _, n8 + ((min ((slI 1 newslice7 (0 : Int) n8).length) ((slI 1 newslice7 n8 (Int.toNat ((F_zb_Mul (xp.length : Int) count).2) : Int)).length) : Nat) : Int), cpL newslice7 (slI 1 newslice7 (0 : Int) n8) (Int.toNat n8) (min ((slI 1 newslice7 (0 : Int) n8).length) ((slI 1 newslice7 n8 (Int.toNat ((F_zb_Mul (xp.length : Int) count).2) : Int)).length)), (hT104.symm.trans (show F_z_Repeat_L1b xp count (F_z_Repeat_L1 xp count r110) n8 newslice7 = F_z_Repeat_L1 xp count r110 (n8 + ((min ((slI 1 newslice7 (0 : Int) n8).length) ((slI 1 newslice7 n8 (Int.toNat ((F_zb_Mul (xp.length : Int) count).2) : Int)).length) : Nat) : Int)) (cpL newslice7 (slI 1 newslice7 (0 : Int) n8) (Int.toNat n8) (min ((slI 1 newslice7 (0 : Int) n8).length) ((slI 1 newslice7 n8 (Int.toNat ((F_zb_Mul (xp.length : Int) count).2) : Int)).length))) by unfold F_z_Repeat_L1b; rw [ht120]; first | done | rfl)).symm, (by omega), (by first | omega | (simp only [sS_len, sL_len]; omega) | (simp only [List.length_replicate, sI_len]; omega) | (simp only [List.length_append, List.length_cons, List.length_nil, sI_len, cond_true, cond_false]; omega) | (simp only [List.length_append, List.length_cons, List.length_nil, sI_len, cond_eq_ite, apply_ite List.length]; split <;> simp only [List.length_append, List.length_cons, List.length_nil, sI_len] <;> omega) | grind), (by first | omega | (simp only [sS_len, sL_len]; omega) | (simp only [List.length_replicate, sI_len]; omega) | (simp only [List.length_append, List.length_cons, List.length_nil, sI_len, cond_true, cond_false]; omega) | (simp only [List.length_append, List.length_cons, List.length_nil, sI_len, cond_eq_ite, apply_ite List.length]; split <;> simp only [List.length_append, List.length_cons, List.length_nil, sI_len] <;> omega) | grind), (by first | omega | (simp only [sS_len, sL_len]; omega) | (simp only [List.length_replicate, sI_len]; omega) | (simp only [List.length_append, List.length_cons, List.length_nil, sI_len, cond_true, cond_false]; omega) | (simp only [List.length_append, List.length_cons, List.length_nil, sI_len, cond_eq_ite, apply_ite List.length]; split <;> simp only [List.length_append, List.length_cons, List.length_nil, sI_len] <;> omega) | grind), (by first | omega | (simp only [sS_len, sL_len]; omega) | (simp only [List.length_replicate, sI_len]; omega) | (simp only [List.length_append, List.length_cons, List.length_nil, sI_len, cond_true, cond_false]; omega) | (simp only [List.length_append, List.length_cons, List.length_nil, sI_len, cond_eq_ite, apply_ite List.length]; split <;> simp only [List.length_append, List.length_cons, List.length_nil, sI_len] <;> omega) | grind), (hE161.sub (L' := [(7, .slice b74 (Int.toNat ((F_zb_Mul (xp.length : Int) count).2)) (Int.toNat ((F_zb_Mul (xp.length : Int) count).2))), (8, .int .i64 (n8 + ((min ((slI 1 newslice7 (0 : Int) n8).length) ((slI 1 newslice7 n8 (Int.toNat ((F_zb_Mul (xp.length : Int) count).2) : Int)).length) : Nat) : Int)))]) ⟨rfl, rfl, trivial⟩), (St.pick (Γ' := [.own 2 1 b74 (Int.toNat ((F_zb_Mul (xp.length : Int) count).2)) (Int.toNat ((F_zb_Mul (xp.length : Int) count).2)) (cpL newslice7 (slI 1 newslice7 (0 : Int) n8) (Int.toNat n8) (min ((slI 1 newslice7 (0 : Int) n8).length) ((slI 1 newslice7 n8 (Int.toNat ((F_zb_Mul (xp.length : Int) count).2) : Int)).length))), .rd 1 xpA xp.length xpC xp]) hS152 [0, 1] (by decide) rfl)⟩
       ·
        have hp162 := of_decide_eq_false ht120
        have hE163 := hE119; rw [ht120] at hE163; clear hE119
        refine wp_exit ?_
        refine p_te ?_
        have hX164 : F_z_Repeat_L1 xp count (Int.toNat (((cpL (List.replicate (Int.toNat ((F_zb_Mul (xp.length : Int) count).2)) 0) xp 0 (min xp.length (Int.toNat ((F_zb_Mul (xp.length : Int) count).2)))).length : Int) - ((min xp.length (Int.toNat ((F_zb_Mul (xp.length : Int) count).2)) : Nat) : Int)) + 1) ((min xp.length (Int.toNat ((F_zb_Mul (xp.length : Int) count).2)) : Nat) : Int) (cpL (List.replicate (Int.toNat ((F_zb_Mul (xp.length : Int) count).2)) 0) xp 0 (min xp.length (Int.toNat ((F_zb_Mul (xp.length : Int) count).2)))) = (n8, newslice7) := hT104.symm.trans (show F_z_Repeat_L1b xp count (F_z_Repeat_L1 xp count r110) n8 newslice7 = (n8, newslice7) by unfold F_z_Repeat_L1b; rw [ht120]; first | done | rfl)
        refine p_te (p_be (p_tn ?_))
        exact ⟨(by rw [hX164]; exact (show 0 ≤ n8 from (by first | omega | (simp only [sS_len, sL_len]; omega) | (simp only [List.length_replicate, sI_len]; omega) | (simp only [List.length_append, List.length_cons, List.length_nil, sI_len, cond_true, cond_false]; omega) | (simp only [List.length_append, List.length_cons, List.length_nil, sI_len, cond_eq_ite, apply_ite List.length]; split <;> simp only [List.length_append, List.length_cons, List.length_nil, sI_len] <;> omega) | grind))), (by rw [hX164]; exact (show n8 ≤ (newslice7.length : Int) from (by first | omega | (simp only [sS_len, sL_len]; omega) | (simp only [List.length_replicate, sI_len]; omega) | (simp only [List.length_append, List.length_cons, List.length_nil, sI_len, cond_true, cond_false]; omega) | (simp only [List.length_append, List.length_cons, List.length_nil, sI_len, cond_eq_ite, apply_ite List.length]; split <;> simp only [List.length_append, List.length_cons, List.length_nil, sI_len] <;> omega) | grind))), (by rw [hX164]; exact (show 1 ≤ n8 ∨ newslice7.length = 0 from (by first | omega | (simp only [sS_len, sL_len]; omega) | (simp only [List.length_replicate, sI_len]; omega) | (simp only [List.length_append, List.length_cons, List.length_nil, sI_len, cond_true, cond_false]; omega) | (simp only [List.length_append, List.length_cons, List.length_nil, sI_len, cond_eq_ite, apply_ite List.length]; split <;> simp only [List.length_append, List.length_cons, List.length_nil, sI_len] <;> omega) | grind))), (by rw [hX164]; exact (show (newslice7.length : Int) = count from (by first | omega | (simp only [sS_len, sL_len]; omega) | (simp only [List.length_replicate, sI_len]; omega) | (simp only [List.length_append, List.length_cons, List.length_nil, sI_len, cond_true, cond_false]; omega) | (simp only [List.length_append, List.length_cons, List.length_nil, sI_len, cond_eq_ite, apply_ite List.length]; split <;> simp only [List.length_append, List.length_cons, List.length_nil, sI_len] <;> omega) | grind))), (by rw [hX164]; exact (hE163.sub (L' := [(7, .slice b74 (Int.toNat ((F_zb_Mul (xp.length : Int) count).2)) (Int.toNat ((F_zb_Mul (xp.length : Int) count).2))), (8, .int .i64 n8)]) ⟨rfl, rfl, trivial⟩)), (by rw [hX164]; exact (St.pick (Γ' := [.own 2 1 b74 (Int.toNat ((F_zb_Mul (xp.length : Int) count).2)) (Int.toNat ((F_zb_Mul (xp.length : Int) count).2)) newslice7, .rd 1 xpA xp.length xpC xp]) hS103 [0, 1] (by decide) rfl))⟩
     ·
      rintro a165 w166 ⟨hi170, hi171, hi172, hi173, hE167, hS168⟩; clear hE98 hS91
      refine c_seq ?_
      refine c_reg ?_
      refine q_step (v := .slice b74 (Int.toNat ((F_zb_Mul (xp.length : Int) count).2)) (Int.toNat ((F_zb_Mul (xp.length : Int) count).2))) hE167 (y_move rfl) rfl rfl rfl ?_; intro a174 hE175; clear hE167
      refine q_step (v := .slice b74 (Int.toNat ((F_zb_Mul (xp.length : Int) count).2)) (Int.toNat ((F_zb_Mul (xp.length : Int) count).2))) hE175 (y_assign rfl) rfl rfl rfl ?_; intro a176 hE177; clear hE175
      refine c_nil ?_
      have hE178 := hE177.sub (L' := [(4, .slice b74 (Int.toNat ((F_zb_Mul (xp.length : Int) count).2)) (Int.toNat ((F_zb_Mul (xp.length : Int) count).2)))]) ⟨rfl, trivial⟩; clear hE177
      refine p_tn ?_
      refine wp_ret ?_
      have hF : F_z_Repeat xp count = (F_z_Repeat_L1 xp count (Int.toNat (((cpL (List.replicate (Int.toNat ((F_zb_Mul (xp.length : Int) count).2)) 0) xp 0 (min xp.length (Int.toNat ((F_zb_Mul (xp.length : Int) count).2)))).length : Int) - ((min xp.length (Int.toNat ((F_zb_Mul (xp.length : Int) count).2)) : Nat) : Int)) + 1) ((min xp.length (Int.toNat ((F_zb_Mul (xp.length : Int) count).2)) : Nat) : Int) (cpL (List.replicate (Int.toNat ((F_zb_Mul (xp.length : Int) count).2)) 0) xp 0 (min xp.length (Int.toNat ((F_zb_Mul (xp.length : Int) count).2))))).2 := by unfold F_z_Repeat; rfl
      refine c_ret1 hE178 rfl rfl ?_
      exact ⟨b74, Int.toNat ((F_zb_Mul (xp.length : Int) count).2), (by rw [hF]; first | rfl | (rw [(St.rdO (i := 0) hS168 rfl).len1])), (by rw [hF, (St.rdO (i := 0) hS168 rfl).len1]; (try dsimp only); exact hS168.ok 0 _ rfl), hS168.ext⟩
theorem repeat_one (y : Int) (h0 : 0 ≤ y) (h1 : y ≤ 8) : F_z_Repeat [1] y = List.replicate y.toNat 1 := by
  have : y = 0 ∨ y = 1 ∨ y = 2 ∨ y = 3 ∨ y = 4 ∨ y = 5 ∨ y = 6 ∨ y = 7 ∨ y = 8 := by omega
  rcases this with rfl | rfl | rfl | rfl | rfl | rfl | rfl | rfl | rfl <;> decide +kernel
end Go.Proofs.Ytlbonhloeefnmaa
