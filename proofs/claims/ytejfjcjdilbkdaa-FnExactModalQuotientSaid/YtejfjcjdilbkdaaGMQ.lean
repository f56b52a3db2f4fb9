/- GMQ: models and contracts, printed by wip/gen/gen.py -/
import Derived.Test.YtejfjcjdilbkdaaGF
import Derived.Test.YtejfjcjdilbkdaaGP
set_option linter.unusedVariables false
set_option linter.unusedSimpArgs false
namespace Go.Proofs.Ytejfjcjdilbkdaa
open Go.RowKit

def F_OnesCount (xp : Int) : Int :=
  andI (wI (wrU ((wrU ((wrU ((andU (wrU ((shrU (wrU ((andU (shrU (wrU ((andU (shrU xp 1) 6148914691236517205) + (andU xp 6148914691236517205))) 2) 3689348814741910323) + (andU (wrU ((andU (shrU xp 1) 6148914691236517205) + (andU xp 6148914691236517205))) 3689348814741910323))) 4) + (wrU ((andU (shrU (wrU ((andU (shrU xp 1) 6148914691236517205) + (andU xp 6148914691236517205))) 2) 3689348814741910323) + (andU (wrU ((andU (shrU xp 1) 6148914691236517205) + (andU xp 6148914691236517205))) 3689348814741910323))))) 1085102592571150095) + (shrU (andU (wrU ((shrU (wrU ((andU (shrU (wrU ((andU (shrU xp 1) 6148914691236517205) + (andU xp 6148914691236517205))) 2) 3689348814741910323) + (andU (wrU ((andU (shrU xp 1) 6148914691236517205) + (andU xp 6148914691236517205))) 3689348814741910323))) 4) + (wrU ((andU (shrU (wrU ((andU (shrU xp 1) 6148914691236517205) + (andU xp 6148914691236517205))) 2) 3689348814741910323) + (andU (wrU ((andU (shrU xp 1) 6148914691236517205) + (andU xp 6148914691236517205))) 3689348814741910323))))) 1085102592571150095) 8))) + (shrU (wrU ((andU (wrU ((shrU (wrU ((andU (shrU (wrU ((andU (shrU xp 1) 6148914691236517205) + (andU xp 6148914691236517205))) 2) 3689348814741910323) + (andU (wrU ((andU (shrU xp 1) 6148914691236517205) + (andU xp 6148914691236517205))) 3689348814741910323))) 4) + (wrU ((andU (shrU (wrU ((andU (shrU xp 1) 6148914691236517205) + (andU xp 6148914691236517205))) 2) 3689348814741910323) + (andU (wrU ((andU (shrU xp 1) 6148914691236517205) + (andU xp 6148914691236517205))) 3689348814741910323))))) 1085102592571150095) + (shrU (andU (wrU ((shrU (wrU ((andU (shrU (wrU ((andU (shrU xp 1) 6148914691236517205) + (andU xp 6148914691236517205))) 2) 3689348814741910323) + (andU (wrU ((andU (shrU xp 1) 6148914691236517205) + (andU xp 6148914691236517205))) 3689348814741910323))) 4) + (wrU ((andU (shrU (wrU ((andU (shrU xp 1) 6148914691236517205) + (andU xp 6148914691236517205))) 2) 3689348814741910323) + (andU (wrU ((andU (shrU xp 1) 6148914691236517205) + (andU xp 6148914691236517205))) 3689348814741910323))))) 1085102592571150095) 8))) 16))) + (shrU (wrU ((wrU ((andU (wrU ((shrU (wrU ((andU (shrU (wrU ((andU (shrU xp 1) 6148914691236517205) + (andU xp 6148914691236517205))) 2) 3689348814741910323) + (andU (wrU ((andU (shrU xp 1) 6148914691236517205) + (andU xp 6148914691236517205))) 3689348814741910323))) 4) + (wrU ((andU (shrU (wrU ((andU (shrU xp 1) 6148914691236517205) + (andU xp 6148914691236517205))) 2) 3689348814741910323) + (andU (wrU ((andU (shrU xp 1) 6148914691236517205) + (andU xp 6148914691236517205))) 3689348814741910323))))) 1085102592571150095) + (shrU (andU (wrU ((shrU (wrU ((andU (shrU (wrU ((andU (shrU xp 1) 6148914691236517205) + (andU xp 6148914691236517205))) 2) 3689348814741910323) + (andU (wrU ((andU (shrU xp 1) 6148914691236517205) + (andU xp 6148914691236517205))) 3689348814741910323))) 4) + (wrU ((andU (shrU (wrU ((andU (shrU xp 1) 6148914691236517205) + (andU xp 6148914691236517205))) 2) 3689348814741910323) + (andU (wrU ((andU (shrU xp 1) 6148914691236517205) + (andU xp 6148914691236517205))) 3689348814741910323))))) 1085102592571150095) 8))) + (shrU (wrU ((andU (wrU ((shrU (wrU ((andU (shrU (wrU ((andU (shrU xp 1) 6148914691236517205) + (andU xp 6148914691236517205))) 2) 3689348814741910323) + (andU (wrU ((andU (shrU xp 1) 6148914691236517205) + (andU xp 6148914691236517205))) 3689348814741910323))) 4) + (wrU ((andU (shrU (wrU ((andU (shrU xp 1) 6148914691236517205) + (andU xp 6148914691236517205))) 2) 3689348814741910323) + (andU (wrU ((andU (shrU xp 1) 6148914691236517205) + (andU xp 6148914691236517205))) 3689348814741910323))))) 1085102592571150095) + (shrU (andU (wrU ((shrU (wrU ((andU (shrU (wrU ((andU (shrU xp 1) 6148914691236517205) + (andU xp 6148914691236517205))) 2) 3689348814741910323) + (andU (wrU ((andU (shrU xp 1) 6148914691236517205) + (andU xp 6148914691236517205))) 3689348814741910323))) 4) + (wrU ((andU (shrU (wrU ((andU (shrU xp 1) 6148914691236517205) + (andU xp 6148914691236517205))) 2) 3689348814741910323) + (andU (wrU ((andU (shrU xp 1) 6148914691236517205) + (andU xp 6148914691236517205))) 3689348814741910323))))) 1085102592571150095) 8))) 16))) 32)))) 127
theorem cf_OnesCount (args : Array Value) (w : World) : (callFunc 134 args).run Try.prog w = .ok (.enter 134 args) w := by kernel_rfl
set_option maxRecDepth 100000 in
theorem c_OnesCount (xp : Int) (w : World) :
    Calls Try.prog 134 #[.int .u64 xp] w (Ret fun v w' => v = .int .i64 (F_OnesCount xp) ∧ w = w') := by
  have hS := St.nil w
  refine enter (args := [.int .u64 xp]) Try.func134 rfl rfl ?_
  rw [Try.ntmps134]; intro a hE
  have hE := hE.sub (L' := [(0, .int .u64 xp)]) ⟨rfl, trivial⟩
  refine c_seq ?_
  refine c_reg ?_
  refine q_step (v := .int .i64 0) hE (y_assign rfl) rfl rfl rfl ?_; intro a1 hE2; clear hE
  refine c_nil ?_
  have hE3 := hE2.sub (L' := [(0, .int .u64 xp)]) ⟨rfl, trivial⟩; clear hE2
  refine p_tn ?_
  refine c_seq ?_
  refine c_reg ?_
  refine q_step (v := .int .u64 xp) hE3 (y_move rfl) rfl rfl rfl ?_; intro a4 hE5; clear hE3
  refine q_step (v := .int .u64 (shrU xp 1)) hE5 (y_shrU rfl rfl (by omega)) rfl rfl rfl ?_; intro a6 hE7; clear hE5
  refine q_step (v := .int .u64 (andU (shrU xp 1) 6148914691236517205)) hE7 (y_andU rfl rfl) rfl rfl rfl ?_; intro a8 hE9; clear hE7
  refine q_step (v := .int .u64 xp) hE9 (y_move rfl) rfl rfl rfl ?_; intro a10 hE11; clear hE9
  refine q_step (v := .int .u64 (andU xp 6148914691236517205)) hE11 (y_andU rfl rfl) rfl rfl rfl ?_; intro a12 hE13; clear hE11
  refine q_step (v := .int .u64 (wrU ((andU (shrU xp 1) 6148914691236517205) + (andU xp 6148914691236517205)))) hE13 (y_addU rfl rfl) rfl rfl rfl ?_; intro a14 hE15; clear hE13
  refine q_step (v := .int .u64 (wrU ((andU (shrU xp 1) 6148914691236517205) + (andU xp 6148914691236517205)))) hE15 (y_assign rfl) rfl rfl rfl ?_; intro a16 hE17; clear hE15
  refine c_nil ?_
  have hE18 := hE17.sub (L' := [(0, .int .u64 (wrU ((andU (shrU xp 1) 6148914691236517205) + (andU xp 6148914691236517205))))]) ⟨rfl, trivial⟩; clear hE17
  refine p_tn ?_
  refine c_seq ?_
  refine c_reg ?_
  refine q_step (v := .int .u64 (wrU ((andU (shrU xp 1) 6148914691236517205) + (andU xp 6148914691236517205)))) hE18 (y_move rfl) rfl rfl rfl ?_; intro a19 hE20; clear hE18
  refine q_step (v := .int .u64 (shrU (wrU ((andU (shrU xp 1) 6148914691236517205) + (andU xp 6148914691236517205))) 2)) hE20 (y_shrU rfl rfl (by omega)) rfl rfl rfl ?_; intro a21 hE22; clear hE20
  refine q_step (v := .int .u64 (andU (shrU (wrU ((andU (shrU xp 1) 6148914691236517205) + (andU xp 6148914691236517205))) 2) 3689348814741910323)) hE22 (y_andU rfl rfl) rfl rfl rfl ?_; intro a23 hE24; clear hE22
  refine q_step (v := .int .u64 (wrU ((andU (shrU xp 1) 6148914691236517205) + (andU xp 6148914691236517205)))) hE24 (y_move rfl) rfl rfl rfl ?_; intro a25 hE26; clear hE24
  refine q_step (v := .int .u64 (andU (wrU ((andU (shrU xp 1) 6148914691236517205) + (andU xp 6148914691236517205))) 3689348814741910323)) hE26 (y_andU rfl rfl) rfl rfl rfl ?_; intro a27 hE28; clear hE26
  refine q_step (v := .int .u64 (wrU ((andU (shrU (wrU ((andU (shrU xp 1) 6148914691236517205) + (andU xp 6148914691236517205))) 2) 3689348814741910323) + (andU (wrU ((andU (shrU xp 1) 6148914691236517205) + (andU xp 6148914691236517205))) 3689348814741910323)))) hE28 (y_addU rfl rfl) rfl rfl rfl ?_; intro a29 hE30; clear hE28
  refine q_step (v := .int .u64 (wrU ((andU (shrU (wrU ((andU (shrU xp 1) 6148914691236517205) + (andU xp 6148914691236517205))) 2) 3689348814741910323) + (andU (wrU ((andU (shrU xp 1) 6148914691236517205) + (andU xp 6148914691236517205))) 3689348814741910323)))) hE30 (y_assign rfl) rfl rfl rfl ?_; intro a31 hE32; clear hE30
  refine c_nil ?_
  have hE33 := hE32.sub (L' := [(0, .int .u64 (wrU ((andU (shrU (wrU ((andU (shrU xp 1) 6148914691236517205) + (andU xp 6148914691236517205))) 2) 3689348814741910323) + (andU (wrU ((andU (shrU xp 1) 6148914691236517205) + (andU xp 6148914691236517205))) 3689348814741910323))))]) ⟨rfl, trivial⟩; clear hE32
  refine p_tn ?_
  refine c_seq ?_
  refine c_reg ?_
  refine q_step (v := .int .u64 (wrU ((andU (shrU (wrU ((andU (shrU xp 1) 6148914691236517205) + (andU xp 6148914691236517205))) 2) 3689348814741910323) + (andU (wrU ((andU (shrU xp 1) 6148914691236517205) + (andU xp 6148914691236517205))) 3689348814741910323)))) hE33 (y_move rfl) rfl rfl rfl ?_; intro a34 hE35; clear hE33
  refine q_step (v := .int .u64 (shrU (wrU ((andU (shrU (wrU ((andU (shrU xp 1) 6148914691236517205) + (andU xp 6148914691236517205))) 2) 3689348814741910323) + (andU (wrU ((andU (shrU xp 1) 6148914691236517205) + (andU xp 6148914691236517205))) 3689348814741910323))) 4)) hE35 (y_shrU rfl rfl (by omega)) rfl rfl rfl ?_; intro a36 hE37; clear hE35
  refine q_step (v := .int .u64 (wrU ((andU (shrU (wrU ((andU (shrU xp 1) 6148914691236517205) + (andU xp 6148914691236517205))) 2) 3689348814741910323) + (andU (wrU ((andU (shrU xp 1) 6148914691236517205) + (andU xp 6148914691236517205))) 3689348814741910323)))) hE37 (y_move rfl) rfl rfl rfl ?_; intro a38 hE39; clear hE37
  refine q_step (v := .int .u64 (wrU ((shrU (wrU ((andU (shrU (wrU ((andU (shrU xp 1) 6148914691236517205) + (andU xp 6148914691236517205))) 2) 3689348814741910323) + (andU (wrU ((andU (shrU xp 1) 6148914691236517205) + (andU xp 6148914691236517205))) 3689348814741910323))) 4) + (wrU ((andU (shrU (wrU ((andU (shrU xp 1) 6148914691236517205) + (andU xp 6148914691236517205))) 2) 3689348814741910323) + (andU (wrU ((andU (shrU xp 1) 6148914691236517205) + (andU xp 6148914691236517205))) 3689348814741910323)))))) hE39 (y_addU rfl rfl) rfl rfl rfl ?_; intro a40 hE41; clear hE39
  refine q_step (v := .int .u64 (andU (wrU ((shrU (wrU ((andU (shrU (wrU ((andU (shrU xp 1) 6148914691236517205) + (andU xp 6148914691236517205))) 2) 3689348814741910323) + (andU (wrU ((andU (shrU xp 1) 6148914691236517205) + (andU xp 6148914691236517205))) 3689348814741910323))) 4) + (wrU ((andU (shrU (wrU ((andU (shrU xp 1) 6148914691236517205) + (andU xp 6148914691236517205))) 2) 3689348814741910323) + (andU (wrU ((andU (shrU xp 1) 6148914691236517205) + (andU xp 6148914691236517205))) 3689348814741910323))))) 1085102592571150095)) hE41 (y_andU rfl rfl) rfl rfl rfl ?_; intro a42 hE43; clear hE41
  refine q_step (v := .int .u64 (andU (wrU ((shrU (wrU ((andU (shrU (wrU ((andU (shrU xp 1) 6148914691236517205) + (andU xp 6148914691236517205))) 2) 3689348814741910323) + (andU (wrU ((andU (shrU xp 1) 6148914691236517205) + (andU xp 6148914691236517205))) 3689348814741910323))) 4) + (wrU ((andU (shrU (wrU ((andU (shrU xp 1) 6148914691236517205) + (andU xp 6148914691236517205))) 2) 3689348814741910323) + (andU (wrU ((andU (shrU xp 1) 6148914691236517205) + (andU xp 6148914691236517205))) 3689348814741910323))))) 1085102592571150095)) hE43 (y_assign rfl) rfl rfl rfl ?_; intro a44 hE45; clear hE43
  refine c_nil ?_
  have hE46 := hE45.sub (L' := [(0, .int .u64 (andU (wrU ((shrU (wrU ((andU (shrU (wrU ((andU (shrU xp 1) 6148914691236517205) + (andU xp 6148914691236517205))) 2) 3689348814741910323) + (andU (wrU ((andU (shrU xp 1) 6148914691236517205) + (andU xp 6148914691236517205))) 3689348814741910323))) 4) + (wrU ((andU (shrU (wrU ((andU (shrU xp 1) 6148914691236517205) + (andU xp 6148914691236517205))) 2) 3689348814741910323) + (andU (wrU ((andU (shrU xp 1) 6148914691236517205) + (andU xp 6148914691236517205))) 3689348814741910323))))) 1085102592571150095))]) ⟨rfl, trivial⟩; clear hE45
  refine p_tn ?_
  refine c_seq ?_
  refine c_reg ?_
  refine q_step (v := .int .u64 (andU (wrU ((shrU (wrU ((andU (shrU (wrU ((andU (shrU xp 1) 6148914691236517205) + (andU xp 6148914691236517205))) 2) 3689348814741910323) + (andU (wrU ((andU (shrU xp 1) 6148914691236517205) + (andU xp 6148914691236517205))) 3689348814741910323))) 4) + (wrU ((andU (shrU (wrU ((andU (shrU xp 1) 6148914691236517205) + (andU xp 6148914691236517205))) 2) 3689348814741910323) + (andU (wrU ((andU (shrU xp 1) 6148914691236517205) + (andU xp 6148914691236517205))) 3689348814741910323))))) 1085102592571150095)) hE46 (y_move rfl) rfl rfl rfl ?_; intro a47 hE48; clear hE46
  refine q_step (v := .int .u64 (andU (wrU ((shrU (wrU ((andU (shrU (wrU ((andU (shrU xp 1) 6148914691236517205) + (andU xp 6148914691236517205))) 2) 3689348814741910323) + (andU (wrU ((andU (shrU xp 1) 6148914691236517205) + (andU xp 6148914691236517205))) 3689348814741910323))) 4) + (wrU ((andU (shrU (wrU ((andU (shrU xp 1) 6148914691236517205) + (andU xp 6148914691236517205))) 2) 3689348814741910323) + (andU (wrU ((andU (shrU xp 1) 6148914691236517205) + (andU xp 6148914691236517205))) 3689348814741910323))))) 1085102592571150095)) hE48 (y_move rfl) rfl rfl rfl ?_; intro a49 hE50; clear hE48
  refine q_step (v := .int .u64 (shrU (andU (wrU ((shrU (wrU ((andU (shrU (wrU ((andU (shrU xp 1) 6148914691236517205) + (andU xp 6148914691236517205))) 2) 3689348814741910323) + (andU (wrU ((andU (shrU xp 1) 6148914691236517205) + (andU xp 6148914691236517205))) 3689348814741910323))) 4) + (wrU ((andU (shrU (wrU ((andU (shrU xp 1) 6148914691236517205) + (andU xp 6148914691236517205))) 2) 3689348814741910323) + (andU (wrU ((andU (shrU xp 1) 6148914691236517205) + (andU xp 6148914691236517205))) 3689348814741910323))))) 1085102592571150095) 8)) hE50 (y_shrU rfl rfl (by omega)) rfl rfl rfl ?_; intro a51 hE52; clear hE50
  refine q_step (v := .int .u64 (wrU ((andU (wrU ((shrU (wrU ((andU (shrU (wrU ((andU (shrU xp 1) 6148914691236517205) + (andU xp 6148914691236517205))) 2) 3689348814741910323) + (andU (wrU ((andU (shrU xp 1) 6148914691236517205) + (andU xp 6148914691236517205))) 3689348814741910323))) 4) + (wrU ((andU (shrU (wrU ((andU (shrU xp 1) 6148914691236517205) + (andU xp 6148914691236517205))) 2) 3689348814741910323) + (andU (wrU ((andU (shrU xp 1) 6148914691236517205) + (andU xp 6148914691236517205))) 3689348814741910323))))) 1085102592571150095) + (shrU (andU (wrU ((shrU (wrU ((andU (shrU (wrU ((andU (shrU xp 1) 6148914691236517205) + (andU xp 6148914691236517205))) 2) 3689348814741910323) + (andU (wrU ((andU (shrU xp 1) 6148914691236517205) + (andU xp 6148914691236517205))) 3689348814741910323))) 4) + (wrU ((andU (shrU (wrU ((andU (shrU xp 1) 6148914691236517205) + (andU xp 6148914691236517205))) 2) 3689348814741910323) + (andU (wrU ((andU (shrU xp 1) 6148914691236517205) + (andU xp 6148914691236517205))) 3689348814741910323))))) 1085102592571150095) 8)))) hE52 (y_addU rfl rfl) rfl rfl rfl ?_; intro a53 hE54; clear hE52
  refine q_step (v := .int .u64 (wrU ((andU (wrU ((shrU (wrU ((andU (shrU (wrU ((andU (shrU xp 1) 6148914691236517205) + (andU xp 6148914691236517205))) 2) 3689348814741910323) + (andU (wrU ((andU (shrU xp 1) 6148914691236517205) + (andU xp 6148914691236517205))) 3689348814741910323))) 4) + (wrU ((andU (shrU (wrU ((andU (shrU xp 1) 6148914691236517205) + (andU xp 6148914691236517205))) 2) 3689348814741910323) + (andU (wrU ((andU (shrU xp 1) 6148914691236517205) + (andU xp 6148914691236517205))) 3689348814741910323))))) 1085102592571150095) + (shrU (andU (wrU ((shrU (wrU ((andU (shrU (wrU ((andU (shrU xp 1) 6148914691236517205) + (andU xp 6148914691236517205))) 2) 3689348814741910323) + (andU (wrU ((andU (shrU xp 1) 6148914691236517205) + (andU xp 6148914691236517205))) 3689348814741910323))) 4) + (wrU ((andU (shrU (wrU ((andU (shrU xp 1) 6148914691236517205) + (andU xp 6148914691236517205))) 2) 3689348814741910323) + (andU (wrU ((andU (shrU xp 1) 6148914691236517205) + (andU xp 6148914691236517205))) 3689348814741910323))))) 1085102592571150095) 8)))) hE54 (y_assign rfl) rfl rfl rfl ?_; intro a55 hE56; clear hE54
  refine c_nil ?_
  have hE57 := hE56.sub (L' := [(0, .int .u64 (wrU ((andU (wrU ((shrU (wrU ((andU (shrU (wrU ((andU (shrU xp 1) 6148914691236517205) + (andU xp 6148914691236517205))) 2) 3689348814741910323) + (andU (wrU ((andU (shrU xp 1) 6148914691236517205) + (andU xp 6148914691236517205))) 3689348814741910323))) 4) + (wrU ((andU (shrU (wrU ((andU (shrU xp 1) 6148914691236517205) + (andU xp 6148914691236517205))) 2) 3689348814741910323) + (andU (wrU ((andU (shrU xp 1) 6148914691236517205) + (andU xp 6148914691236517205))) 3689348814741910323))))) 1085102592571150095) + (shrU (andU (wrU ((shrU (wrU ((andU (shrU (wrU ((andU (shrU xp 1) 6148914691236517205) + (andU xp 6148914691236517205))) 2) 3689348814741910323) + (andU (wrU ((andU (shrU xp 1) 6148914691236517205) + (andU xp 6148914691236517205))) 3689348814741910323))) 4) + (wrU ((andU (shrU (wrU ((andU (shrU xp 1) 6148914691236517205) + (andU xp 6148914691236517205))) 2) 3689348814741910323) + (andU (wrU ((andU (shrU xp 1) 6148914691236517205) + (andU xp 6148914691236517205))) 3689348814741910323))))) 1085102592571150095) 8))))]) ⟨rfl, trivial⟩; clear hE56
  refine p_tn ?_
  refine c_seq ?_
  refine c_reg ?_
  refine q_step (v := .int .u64 (wrU ((andU (wrU ((shrU (wrU ((andU (shrU (wrU ((andU (shrU xp 1) 6148914691236517205) + (andU xp 6148914691236517205))) 2) 3689348814741910323) + (andU (wrU ((andU (shrU xp 1) 6148914691236517205) + (andU xp 6148914691236517205))) 3689348814741910323))) 4) + (wrU ((andU (shrU (wrU ((andU (shrU xp 1) 6148914691236517205) + (andU xp 6148914691236517205))) 2) 3689348814741910323) + (andU (wrU ((andU (shrU xp 1) 6148914691236517205) + (andU xp 6148914691236517205))) 3689348814741910323))))) 1085102592571150095) + (shrU (andU (wrU ((shrU (wrU ((andU (shrU (wrU ((andU (shrU xp 1) 6148914691236517205) + (andU xp 6148914691236517205))) 2) 3689348814741910323) + (andU (wrU ((andU (shrU xp 1) 6148914691236517205) + (andU xp 6148914691236517205))) 3689348814741910323))) 4) + (wrU ((andU (shrU (wrU ((andU (shrU xp 1) 6148914691236517205) + (andU xp 6148914691236517205))) 2) 3689348814741910323) + (andU (wrU ((andU (shrU xp 1) 6148914691236517205) + (andU xp 6148914691236517205))) 3689348814741910323))))) 1085102592571150095) 8)))) hE57 (y_move rfl) rfl rfl rfl ?_; intro a58 hE59; clear hE57
  refine q_step (v := .int .u64 (wrU ((andU (wrU ((shrU (wrU ((andU (shrU (wrU ((andU (shrU xp 1) 6148914691236517205) + (andU xp 6148914691236517205))) 2) 3689348814741910323) + (andU (wrU ((andU (shrU xp 1) 6148914691236517205) + (andU xp 6148914691236517205))) 3689348814741910323))) 4) + (wrU ((andU (shrU (wrU ((andU (shrU xp 1) 6148914691236517205) + (andU xp 6148914691236517205))) 2) 3689348814741910323) + (andU (wrU ((andU (shrU xp 1) 6148914691236517205) + (andU xp 6148914691236517205))) 3689348814741910323))))) 1085102592571150095) + (shrU (andU (wrU ((shrU (wrU ((andU (shrU (wrU ((andU (shrU xp 1) 6148914691236517205) + (andU xp 6148914691236517205))) 2) 3689348814741910323) + (andU (wrU ((andU (shrU xp 1) 6148914691236517205) + (andU xp 6148914691236517205))) 3689348814741910323))) 4) + (wrU ((andU (shrU (wrU ((andU (shrU xp 1) 6148914691236517205) + (andU xp 6148914691236517205))) 2) 3689348814741910323) + (andU (wrU ((andU (shrU xp 1) 6148914691236517205) + (andU xp 6148914691236517205))) 3689348814741910323))))) 1085102592571150095) 8)))) hE59 (y_move rfl) rfl rfl rfl ?_; intro a60 hE61; clear hE59
  refine q_step (v := .int .u64 (shrU (wrU ((andU (wrU ((shrU (wrU ((andU (shrU (wrU ((andU (shrU xp 1) 6148914691236517205) + (andU xp 6148914691236517205))) 2) 3689348814741910323) + (andU (wrU ((andU (shrU xp 1) 6148914691236517205) + (andU xp 6148914691236517205))) 3689348814741910323))) 4) + (wrU ((andU (shrU (wrU ((andU (shrU xp 1) 6148914691236517205) + (andU xp 6148914691236517205))) 2) 3689348814741910323) + (andU (wrU ((andU (shrU xp 1) 6148914691236517205) + (andU xp 6148914691236517205))) 3689348814741910323))))) 1085102592571150095) + (shrU (andU (wrU ((shrU (wrU ((andU (shrU (wrU ((andU (shrU xp 1) 6148914691236517205) + (andU xp 6148914691236517205))) 2) 3689348814741910323) + (andU (wrU ((andU (shrU xp 1) 6148914691236517205) + (andU xp 6148914691236517205))) 3689348814741910323))) 4) + (wrU ((andU (shrU (wrU ((andU (shrU xp 1) 6148914691236517205) + (andU xp 6148914691236517205))) 2) 3689348814741910323) + (andU (wrU ((andU (shrU xp 1) 6148914691236517205) + (andU xp 6148914691236517205))) 3689348814741910323))))) 1085102592571150095) 8))) 16)) hE61 (y_shrU rfl rfl (by omega)) rfl rfl rfl ?_; intro a62 hE63; clear hE61
  refine q_step (v := .int .u64 (wrU ((wrU ((andU (wrU ((shrU (wrU ((andU (shrU (wrU ((andU (shrU xp 1) 6148914691236517205) + (andU xp 6148914691236517205))) 2) 3689348814741910323) + (andU (wrU ((andU (shrU xp 1) 6148914691236517205) + (andU xp 6148914691236517205))) 3689348814741910323))) 4) + (wrU ((andU (shrU (wrU ((andU (shrU xp 1) 6148914691236517205) + (andU xp 6148914691236517205))) 2) 3689348814741910323) + (andU (wrU ((andU (shrU xp 1) 6148914691236517205) + (andU xp 6148914691236517205))) 3689348814741910323))))) 1085102592571150095) + (shrU (andU (wrU ((shrU (wrU ((andU (shrU (wrU ((andU (shrU xp 1) 6148914691236517205) + (andU xp 6148914691236517205))) 2) 3689348814741910323) + (andU (wrU ((andU (shrU xp 1) 6148914691236517205) + (andU xp 6148914691236517205))) 3689348814741910323))) 4) + (wrU ((andU (shrU (wrU ((andU (shrU xp 1) 6148914691236517205) + (andU xp 6148914691236517205))) 2) 3689348814741910323) + (andU (wrU ((andU (shrU xp 1) 6148914691236517205) + (andU xp 6148914691236517205))) 3689348814741910323))))) 1085102592571150095) 8))) + (shrU (wrU ((andU (wrU ((shrU (wrU ((andU (shrU (wrU ((andU (shrU xp 1) 6148914691236517205) + (andU xp 6148914691236517205))) 2) 3689348814741910323) + (andU (wrU ((andU (shrU xp 1) 6148914691236517205) + (andU xp 6148914691236517205))) 3689348814741910323))) 4) + (wrU ((andU (shrU (wrU ((andU (shrU xp 1) 6148914691236517205) + (andU xp 6148914691236517205))) 2) 3689348814741910323) + (andU (wrU ((andU (shrU xp 1) 6148914691236517205) + (andU xp 6148914691236517205))) 3689348814741910323))))) 1085102592571150095) + (shrU (andU (wrU ((shrU (wrU ((andU (shrU (wrU ((andU (shrU xp 1) 6148914691236517205) + (andU xp 6148914691236517205))) 2) 3689348814741910323) + (andU (wrU ((andU (shrU xp 1) 6148914691236517205) + (andU xp 6148914691236517205))) 3689348814741910323))) 4) + (wrU ((andU (shrU (wrU ((andU (shrU xp 1) 6148914691236517205) + (andU xp 6148914691236517205))) 2) 3689348814741910323) + (andU (wrU ((andU (shrU xp 1) 6148914691236517205) + (andU xp 6148914691236517205))) 3689348814741910323))))) 1085102592571150095) 8))) 16)))) hE63 (y_addU rfl rfl) rfl rfl rfl ?_; intro a64 hE65; clear hE63
  refine q_step (v := .int .u64 (wrU ((wrU ((andU (wrU ((shrU (wrU ((andU (shrU (wrU ((andU (shrU xp 1) 6148914691236517205) + (andU xp 6148914691236517205))) 2) 3689348814741910323) + (andU (wrU ((andU (shrU xp 1) 6148914691236517205) + (andU xp 6148914691236517205))) 3689348814741910323))) 4) + (wrU ((andU (shrU (wrU ((andU (shrU xp 1) 6148914691236517205) + (andU xp 6148914691236517205))) 2) 3689348814741910323) + (andU (wrU ((andU (shrU xp 1) 6148914691236517205) + (andU xp 6148914691236517205))) 3689348814741910323))))) 1085102592571150095) + (shrU (andU (wrU ((shrU (wrU ((andU (shrU (wrU ((andU (shrU xp 1) 6148914691236517205) + (andU xp 6148914691236517205))) 2) 3689348814741910323) + (andU (wrU ((andU (shrU xp 1) 6148914691236517205) + (andU xp 6148914691236517205))) 3689348814741910323))) 4) + (wrU ((andU (shrU (wrU ((andU (shrU xp 1) 6148914691236517205) + (andU xp 6148914691236517205))) 2) 3689348814741910323) + (andU (wrU ((andU (shrU xp 1) 6148914691236517205) + (andU xp 6148914691236517205))) 3689348814741910323))))) 1085102592571150095) 8))) + (shrU (wrU ((andU (wrU ((shrU (wrU ((andU (shrU (wrU ((andU (shrU xp 1) 6148914691236517205) + (andU xp 6148914691236517205))) 2) 3689348814741910323) + (andU (wrU ((andU (shrU xp 1) 6148914691236517205) + (andU xp 6148914691236517205))) 3689348814741910323))) 4) + (wrU ((andU (shrU (wrU ((andU (shrU xp 1) 6148914691236517205) + (andU xp 6148914691236517205))) 2) 3689348814741910323) + (andU (wrU ((andU (shrU xp 1) 6148914691236517205) + (andU xp 6148914691236517205))) 3689348814741910323))))) 1085102592571150095) + (shrU (andU (wrU ((shrU (wrU ((andU (shrU (wrU ((andU (shrU xp 1) 6148914691236517205) + (andU xp 6148914691236517205))) 2) 3689348814741910323) + (andU (wrU ((andU (shrU xp 1) 6148914691236517205) + (andU xp 6148914691236517205))) 3689348814741910323))) 4) + (wrU ((andU (shrU (wrU ((andU (shrU xp 1) 6148914691236517205) + (andU xp 6148914691236517205))) 2) 3689348814741910323) + (andU (wrU ((andU (shrU xp 1) 6148914691236517205) + (andU xp 6148914691236517205))) 3689348814741910323))))) 1085102592571150095) 8))) 16)))) hE65 (y_assign rfl) rfl rfl rfl ?_; intro a66 hE67; clear hE65
  refine c_nil ?_
  have hE68 := hE67.sub (L' := [(0, .int .u64 (wrU ((wrU ((andU (wrU ((shrU (wrU ((andU (shrU (wrU ((andU (shrU xp 1) 6148914691236517205) + (andU xp 6148914691236517205))) 2) 3689348814741910323) + (andU (wrU ((andU (shrU xp 1) 6148914691236517205) + (andU xp 6148914691236517205))) 3689348814741910323))) 4) + (wrU ((andU (shrU (wrU ((andU (shrU xp 1) 6148914691236517205) + (andU xp 6148914691236517205))) 2) 3689348814741910323) + (andU (wrU ((andU (shrU xp 1) 6148914691236517205) + (andU xp 6148914691236517205))) 3689348814741910323))))) 1085102592571150095) + (shrU (andU (wrU ((shrU (wrU ((andU (shrU (wrU ((andU (shrU xp 1) 6148914691236517205) + (andU xp 6148914691236517205))) 2) 3689348814741910323) + (andU (wrU ((andU (shrU xp 1) 6148914691236517205) + (andU xp 6148914691236517205))) 3689348814741910323))) 4) + (wrU ((andU (shrU (wrU ((andU (shrU xp 1) 6148914691236517205) + (andU xp 6148914691236517205))) 2) 3689348814741910323) + (andU (wrU ((andU (shrU xp 1) 6148914691236517205) + (andU xp 6148914691236517205))) 3689348814741910323))))) 1085102592571150095) 8))) + (shrU (wrU ((andU (wrU ((shrU (wrU ((andU (shrU (wrU ((andU (shrU xp 1) 6148914691236517205) + (andU xp 6148914691236517205))) 2) 3689348814741910323) + (andU (wrU ((andU (shrU xp 1) 6148914691236517205) + (andU xp 6148914691236517205))) 3689348814741910323))) 4) + (wrU ((andU (shrU (wrU ((andU (shrU xp 1) 6148914691236517205) + (andU xp 6148914691236517205))) 2) 3689348814741910323) + (andU (wrU ((andU (shrU xp 1) 6148914691236517205) + (andU xp 6148914691236517205))) 3689348814741910323))))) 1085102592571150095) + (shrU (andU (wrU ((shrU (wrU ((andU (shrU (wrU ((andU (shrU xp 1) 6148914691236517205) + (andU xp 6148914691236517205))) 2) 3689348814741910323) + (andU (wrU ((andU (shrU xp 1) 6148914691236517205) + (andU xp 6148914691236517205))) 3689348814741910323))) 4) + (wrU ((andU (shrU (wrU ((andU (shrU xp 1) 6148914691236517205) + (andU xp 6148914691236517205))) 2) 3689348814741910323) + (andU (wrU ((andU (shrU xp 1) 6148914691236517205) + (andU xp 6148914691236517205))) 3689348814741910323))))) 1085102592571150095) 8))) 16))))]) ⟨rfl, trivial⟩; clear hE67
  refine p_tn ?_
  refine c_seq ?_
  refine c_reg ?_
  refine q_step (v := .int .u64 (wrU ((wrU ((andU (wrU ((shrU (wrU ((andU (shrU (wrU ((andU (shrU xp 1) 6148914691236517205) + (andU xp 6148914691236517205))) 2) 3689348814741910323) + (andU (wrU ((andU (shrU xp 1) 6148914691236517205) + (andU xp 6148914691236517205))) 3689348814741910323))) 4) + (wrU ((andU (shrU (wrU ((andU (shrU xp 1) 6148914691236517205) + (andU xp 6148914691236517205))) 2) 3689348814741910323) + (andU (wrU ((andU (shrU xp 1) 6148914691236517205) + (andU xp 6148914691236517205))) 3689348814741910323))))) 1085102592571150095) + (shrU (andU (wrU ((shrU (wrU ((andU (shrU (wrU ((andU (shrU xp 1) 6148914691236517205) + (andU xp 6148914691236517205))) 2) 3689348814741910323) + (andU (wrU ((andU (shrU xp 1) 6148914691236517205) + (andU xp 6148914691236517205))) 3689348814741910323))) 4) + (wrU ((andU (shrU (wrU ((andU (shrU xp 1) 6148914691236517205) + (andU xp 6148914691236517205))) 2) 3689348814741910323) + (andU (wrU ((andU (shrU xp 1) 6148914691236517205) + (andU xp 6148914691236517205))) 3689348814741910323))))) 1085102592571150095) 8))) + (shrU (wrU ((andU (wrU ((shrU (wrU ((andU (shrU (wrU ((andU (shrU xp 1) 6148914691236517205) + (andU xp 6148914691236517205))) 2) 3689348814741910323) + (andU (wrU ((andU (shrU xp 1) 6148914691236517205) + (andU xp 6148914691236517205))) 3689348814741910323))) 4) + (wrU ((andU (shrU (wrU ((andU (shrU xp 1) 6148914691236517205) + (andU xp 6148914691236517205))) 2) 3689348814741910323) + (andU (wrU ((andU (shrU xp 1) 6148914691236517205) + (andU xp 6148914691236517205))) 3689348814741910323))))) 1085102592571150095) + (shrU (andU (wrU ((shrU (wrU ((andU (shrU (wrU ((andU (shrU xp 1) 6148914691236517205) + (andU xp 6148914691236517205))) 2) 3689348814741910323) + (andU (wrU ((andU (shrU xp 1) 6148914691236517205) + (andU xp 6148914691236517205))) 3689348814741910323))) 4) + (wrU ((andU (shrU (wrU ((andU (shrU xp 1) 6148914691236517205) + (andU xp 6148914691236517205))) 2) 3689348814741910323) + (andU (wrU ((andU (shrU xp 1) 6148914691236517205) + (andU xp 6148914691236517205))) 3689348814741910323))))) 1085102592571150095) 8))) 16)))) hE68 (y_move rfl) rfl rfl rfl ?_; intro a69 hE70; clear hE68
  refine q_step (v := .int .u64 (wrU ((wrU ((andU (wrU ((shrU (wrU ((andU (shrU (wrU ((andU (shrU xp 1) 6148914691236517205) + (andU xp 6148914691236517205))) 2) 3689348814741910323) + (andU (wrU ((andU (shrU xp 1) 6148914691236517205) + (andU xp 6148914691236517205))) 3689348814741910323))) 4) + (wrU ((andU (shrU (wrU ((andU (shrU xp 1) 6148914691236517205) + (andU xp 6148914691236517205))) 2) 3689348814741910323) + (andU (wrU ((andU (shrU xp 1) 6148914691236517205) + (andU xp 6148914691236517205))) 3689348814741910323))))) 1085102592571150095) + (shrU (andU (wrU ((shrU (wrU ((andU (shrU (wrU ((andU (shrU xp 1) 6148914691236517205) + (andU xp 6148914691236517205))) 2) 3689348814741910323) + (andU (wrU ((andU (shrU xp 1) 6148914691236517205) + (andU xp 6148914691236517205))) 3689348814741910323))) 4) + (wrU ((andU (shrU (wrU ((andU (shrU xp 1) 6148914691236517205) + (andU xp 6148914691236517205))) 2) 3689348814741910323) + (andU (wrU ((andU (shrU xp 1) 6148914691236517205) + (andU xp 6148914691236517205))) 3689348814741910323))))) 1085102592571150095) 8))) + (shrU (wrU ((andU (wrU ((shrU (wrU ((andU (shrU (wrU ((andU (shrU xp 1) 6148914691236517205) + (andU xp 6148914691236517205))) 2) 3689348814741910323) + (andU (wrU ((andU (shrU xp 1) 6148914691236517205) + (andU xp 6148914691236517205))) 3689348814741910323))) 4) + (wrU ((andU (shrU (wrU ((andU (shrU xp 1) 6148914691236517205) + (andU xp 6148914691236517205))) 2) 3689348814741910323) + (andU (wrU ((andU (shrU xp 1) 6148914691236517205) + (andU xp 6148914691236517205))) 3689348814741910323))))) 1085102592571150095) + (shrU (andU (wrU ((shrU (wrU ((andU (shrU (wrU ((andU (shrU xp 1) 6148914691236517205) + (andU xp 6148914691236517205))) 2) 3689348814741910323) + (andU (wrU ((andU (shrU xp 1) 6148914691236517205) + (andU xp 6148914691236517205))) 3689348814741910323))) 4) + (wrU ((andU (shrU (wrU ((andU (shrU xp 1) 6148914691236517205) + (andU xp 6148914691236517205))) 2) 3689348814741910323) + (andU (wrU ((andU (shrU xp 1) 6148914691236517205) + (andU xp 6148914691236517205))) 3689348814741910323))))) 1085102592571150095) 8))) 16)))) hE70 (y_move rfl) rfl rfl rfl ?_; intro a71 hE72; clear hE70
  refine q_step (v := .int .u64 (shrU (wrU ((wrU ((andU (wrU ((shrU (wrU ((andU (shrU (wrU ((andU (shrU xp 1) 6148914691236517205) + (andU xp 6148914691236517205))) 2) 3689348814741910323) + (andU (wrU ((andU (shrU xp 1) 6148914691236517205) + (andU xp 6148914691236517205))) 3689348814741910323))) 4) + (wrU ((andU (shrU (wrU ((andU (shrU xp 1) 6148914691236517205) + (andU xp 6148914691236517205))) 2) 3689348814741910323) + (andU (wrU ((andU (shrU xp 1) 6148914691236517205) + (andU xp 6148914691236517205))) 3689348814741910323))))) 1085102592571150095) + (shrU (andU (wrU ((shrU (wrU ((andU (shrU (wrU ((andU (shrU xp 1) 6148914691236517205) + (andU xp 6148914691236517205))) 2) 3689348814741910323) + (andU (wrU ((andU (shrU xp 1) 6148914691236517205) + (andU xp 6148914691236517205))) 3689348814741910323))) 4) + (wrU ((andU (shrU (wrU ((andU (shrU xp 1) 6148914691236517205) + (andU xp 6148914691236517205))) 2) 3689348814741910323) + (andU (wrU ((andU (shrU xp 1) 6148914691236517205) + (andU xp 6148914691236517205))) 3689348814741910323))))) 1085102592571150095) 8))) + (shrU (wrU ((andU (wrU ((shrU (wrU ((andU (shrU (wrU ((andU (shrU xp 1) 6148914691236517205) + (andU xp 6148914691236517205))) 2) 3689348814741910323) + (andU (wrU ((andU (shrU xp 1) 6148914691236517205) + (andU xp 6148914691236517205))) 3689348814741910323))) 4) + (wrU ((andU (shrU (wrU ((andU (shrU xp 1) 6148914691236517205) + (andU xp 6148914691236517205))) 2) 3689348814741910323) + (andU (wrU ((andU (shrU xp 1) 6148914691236517205) + (andU xp 6148914691236517205))) 3689348814741910323))))) 1085102592571150095) + (shrU (andU (wrU ((shrU (wrU ((andU (shrU (wrU ((andU (shrU xp 1) 6148914691236517205) + (andU xp 6148914691236517205))) 2) 3689348814741910323) + (andU (wrU ((andU (shrU xp 1) 6148914691236517205) + (andU xp 6148914691236517205))) 3689348814741910323))) 4) + (wrU ((andU (shrU (wrU ((andU (shrU xp 1) 6148914691236517205) + (andU xp 6148914691236517205))) 2) 3689348814741910323) + (andU (wrU ((andU (shrU xp 1) 6148914691236517205) + (andU xp 6148914691236517205))) 3689348814741910323))))) 1085102592571150095) 8))) 16))) 32)) hE72 (y_shrU rfl rfl (by omega)) rfl rfl rfl ?_; intro a73 hE74; clear hE72
  refine q_step (v := .int .u64 (wrU ((wrU ((wrU ((andU (wrU ((shrU (wrU ((andU (shrU (wrU ((andU (shrU xp 1) 6148914691236517205) + (andU xp 6148914691236517205))) 2) 3689348814741910323) + (andU (wrU ((andU (shrU xp 1) 6148914691236517205) + (andU xp 6148914691236517205))) 3689348814741910323))) 4) + (wrU ((andU (shrU (wrU ((andU (shrU xp 1) 6148914691236517205) + (andU xp 6148914691236517205))) 2) 3689348814741910323) + (andU (wrU ((andU (shrU xp 1) 6148914691236517205) + (andU xp 6148914691236517205))) 3689348814741910323))))) 1085102592571150095) + (shrU (andU (wrU ((shrU (wrU ((andU (shrU (wrU ((andU (shrU xp 1) 6148914691236517205) + (andU xp 6148914691236517205))) 2) 3689348814741910323) + (andU (wrU ((andU (shrU xp 1) 6148914691236517205) + (andU xp 6148914691236517205))) 3689348814741910323))) 4) + (wrU ((andU (shrU (wrU ((andU (shrU xp 1) 6148914691236517205) + (andU xp 6148914691236517205))) 2) 3689348814741910323) + (andU (wrU ((andU (shrU xp 1) 6148914691236517205) + (andU xp 6148914691236517205))) 3689348814741910323))))) 1085102592571150095) 8))) + (shrU (wrU ((andU (wrU ((shrU (wrU ((andU (shrU (wrU ((andU (shrU xp 1) 6148914691236517205) + (andU xp 6148914691236517205))) 2) 3689348814741910323) + (andU (wrU ((andU (shrU xp 1) 6148914691236517205) + (andU xp 6148914691236517205))) 3689348814741910323))) 4) + (wrU ((andU (shrU (wrU ((andU (shrU xp 1) 6148914691236517205) + (andU xp 6148914691236517205))) 2) 3689348814741910323) + (andU (wrU ((andU (shrU xp 1) 6148914691236517205) + (andU xp 6148914691236517205))) 3689348814741910323))))) 1085102592571150095) + (shrU (andU (wrU ((shrU (wrU ((andU (shrU (wrU ((andU (shrU xp 1) 6148914691236517205) + (andU xp 6148914691236517205))) 2) 3689348814741910323) + (andU (wrU ((andU (shrU xp 1) 6148914691236517205) + (andU xp 6148914691236517205))) 3689348814741910323))) 4) + (wrU ((andU (shrU (wrU ((andU (shrU xp 1) 6148914691236517205) + (andU xp 6148914691236517205))) 2) 3689348814741910323) + (andU (wrU ((andU (shrU xp 1) 6148914691236517205) + (andU xp 6148914691236517205))) 3689348814741910323))))) 1085102592571150095) 8))) 16))) + (shrU (wrU ((wrU ((andU (wrU ((shrU (wrU ((andU (shrU (wrU ((andU (shrU xp 1) 6148914691236517205) + (andU xp 6148914691236517205))) 2) 3689348814741910323) + (andU (wrU ((andU (shrU xp 1) 6148914691236517205) + (andU xp 6148914691236517205))) 3689348814741910323))) 4) + (wrU ((andU (shrU (wrU ((andU (shrU xp 1) 6148914691236517205) + (andU xp 6148914691236517205))) 2) 3689348814741910323) + (andU (wrU ((andU (shrU xp 1) 6148914691236517205) + (andU xp 6148914691236517205))) 3689348814741910323))))) 1085102592571150095) + (shrU (andU (wrU ((shrU (wrU ((andU (shrU (wrU ((andU (shrU xp 1) 6148914691236517205) + (andU xp 6148914691236517205))) 2) 3689348814741910323) + (andU (wrU ((andU (shrU xp 1) 6148914691236517205) + (andU xp 6148914691236517205))) 3689348814741910323))) 4) + (wrU ((andU (shrU (wrU ((andU (shrU xp 1) 6148914691236517205) + (andU xp 6148914691236517205))) 2) 3689348814741910323) + (andU (wrU ((andU (shrU xp 1) 6148914691236517205) + (andU xp 6148914691236517205))) 3689348814741910323))))) 1085102592571150095) 8))) + (shrU (wrU ((andU (wrU ((shrU (wrU ((andU (shrU (wrU ((andU (shrU xp 1) 6148914691236517205) + (andU xp 6148914691236517205))) 2) 3689348814741910323) + (andU (wrU ((andU (shrU xp 1) 6148914691236517205) + (andU xp 6148914691236517205))) 3689348814741910323))) 4) + (wrU ((andU (shrU (wrU ((andU (shrU xp 1) 6148914691236517205) + (andU xp 6148914691236517205))) 2) 3689348814741910323) + (andU (wrU ((andU (shrU xp 1) 6148914691236517205) + (andU xp 6148914691236517205))) 3689348814741910323))))) 1085102592571150095) + (shrU (andU (wrU ((shrU (wrU ((andU (shrU (wrU ((andU (shrU xp 1) 6148914691236517205) + (andU xp 6148914691236517205))) 2) 3689348814741910323) + (andU (wrU ((andU (shrU xp 1) 6148914691236517205) + (andU xp 6148914691236517205))) 3689348814741910323))) 4) + (wrU ((andU (shrU (wrU ((andU (shrU xp 1) 6148914691236517205) + (andU xp 6148914691236517205))) 2) 3689348814741910323) + (andU (wrU ((andU (shrU xp 1) 6148914691236517205) + (andU xp 6148914691236517205))) 3689348814741910323))))) 1085102592571150095) 8))) 16))) 32)))) hE74 (y_addU rfl rfl) rfl rfl rfl ?_; intro a75 hE76; clear hE74
  refine q_step (v := .int .u64 (wrU ((wrU ((wrU ((andU (wrU ((shrU (wrU ((andU (shrU (wrU ((andU (shrU xp 1) 6148914691236517205) + (andU xp 6148914691236517205))) 2) 3689348814741910323) + (andU (wrU ((andU (shrU xp 1) 6148914691236517205) + (andU xp 6148914691236517205))) 3689348814741910323))) 4) + (wrU ((andU (shrU (wrU ((andU (shrU xp 1) 6148914691236517205) + (andU xp 6148914691236517205))) 2) 3689348814741910323) + (andU (wrU ((andU (shrU xp 1) 6148914691236517205) + (andU xp 6148914691236517205))) 3689348814741910323))))) 1085102592571150095) + (shrU (andU (wrU ((shrU (wrU ((andU (shrU (wrU ((andU (shrU xp 1) 6148914691236517205) + (andU xp 6148914691236517205))) 2) 3689348814741910323) + (andU (wrU ((andU (shrU xp 1) 6148914691236517205) + (andU xp 6148914691236517205))) 3689348814741910323))) 4) + (wrU ((andU (shrU (wrU ((andU (shrU xp 1) 6148914691236517205) + (andU xp 6148914691236517205))) 2) 3689348814741910323) + (andU (wrU ((andU (shrU xp 1) 6148914691236517205) + (andU xp 6148914691236517205))) 3689348814741910323))))) 1085102592571150095) 8))) + (shrU (wrU ((andU (wrU ((shrU (wrU ((andU (shrU (wrU ((andU (shrU xp 1) 6148914691236517205) + (andU xp 6148914691236517205))) 2) 3689348814741910323) + (andU (wrU ((andU (shrU xp 1) 6148914691236517205) + (andU xp 6148914691236517205))) 3689348814741910323))) 4) + (wrU ((andU (shrU (wrU ((andU (shrU xp 1) 6148914691236517205) + (andU xp 6148914691236517205))) 2) 3689348814741910323) + (andU (wrU ((andU (shrU xp 1) 6148914691236517205) + (andU xp 6148914691236517205))) 3689348814741910323))))) 1085102592571150095) + (shrU (andU (wrU ((shrU (wrU ((andU (shrU (wrU ((andU (shrU xp 1) 6148914691236517205) + (andU xp 6148914691236517205))) 2) 3689348814741910323) + (andU (wrU ((andU (shrU xp 1) 6148914691236517205) + (andU xp 6148914691236517205))) 3689348814741910323))) 4) + (wrU ((andU (shrU (wrU ((andU (shrU xp 1) 6148914691236517205) + (andU xp 6148914691236517205))) 2) 3689348814741910323) + (andU (wrU ((andU (shrU xp 1) 6148914691236517205) + (andU xp 6148914691236517205))) 3689348814741910323))))) 1085102592571150095) 8))) 16))) + (shrU (wrU ((wrU ((andU (wrU ((shrU (wrU ((andU (shrU (wrU ((andU (shrU xp 1) 6148914691236517205) + (andU xp 6148914691236517205))) 2) 3689348814741910323) + (andU (wrU ((andU (shrU xp 1) 6148914691236517205) + (andU xp 6148914691236517205))) 3689348814741910323))) 4) + (wrU ((andU (shrU (wrU ((andU (shrU xp 1) 6148914691236517205) + (andU xp 6148914691236517205))) 2) 3689348814741910323) + (andU (wrU ((andU (shrU xp 1) 6148914691236517205) + (andU xp 6148914691236517205))) 3689348814741910323))))) 1085102592571150095) + (shrU (andU (wrU ((shrU (wrU ((andU (shrU (wrU ((andU (shrU xp 1) 6148914691236517205) + (andU xp 6148914691236517205))) 2) 3689348814741910323) + (andU (wrU ((andU (shrU xp 1) 6148914691236517205) + (andU xp 6148914691236517205))) 3689348814741910323))) 4) + (wrU ((andU (shrU (wrU ((andU (shrU xp 1) 6148914691236517205) + (andU xp 6148914691236517205))) 2) 3689348814741910323) + (andU (wrU ((andU (shrU xp 1) 6148914691236517205) + (andU xp 6148914691236517205))) 3689348814741910323))))) 1085102592571150095) 8))) + (shrU (wrU ((andU (wrU ((shrU (wrU ((andU (shrU (wrU ((andU (shrU xp 1) 6148914691236517205) + (andU xp 6148914691236517205))) 2) 3689348814741910323) + (andU (wrU ((andU (shrU xp 1) 6148914691236517205) + (andU xp 6148914691236517205))) 3689348814741910323))) 4) + (wrU ((andU (shrU (wrU ((andU (shrU xp 1) 6148914691236517205) + (andU xp 6148914691236517205))) 2) 3689348814741910323) + (andU (wrU ((andU (shrU xp 1) 6148914691236517205) + (andU xp 6148914691236517205))) 3689348814741910323))))) 1085102592571150095) + (shrU (andU (wrU ((shrU (wrU ((andU (shrU (wrU ((andU (shrU xp 1) 6148914691236517205) + (andU xp 6148914691236517205))) 2) 3689348814741910323) + (andU (wrU ((andU (shrU xp 1) 6148914691236517205) + (andU xp 6148914691236517205))) 3689348814741910323))) 4) + (wrU ((andU (shrU (wrU ((andU (shrU xp 1) 6148914691236517205) + (andU xp 6148914691236517205))) 2) 3689348814741910323) + (andU (wrU ((andU (shrU xp 1) 6148914691236517205) + (andU xp 6148914691236517205))) 3689348814741910323))))) 1085102592571150095) 8))) 16))) 32)))) hE76 (y_assign rfl) rfl rfl rfl ?_; intro a77 hE78; clear hE76
  refine c_nil ?_
  have hE79 := hE78.sub (L' := [(0, .int .u64 (wrU ((wrU ((wrU ((andU (wrU ((shrU (wrU ((andU (shrU (wrU ((andU (shrU xp 1) 6148914691236517205) + (andU xp 6148914691236517205))) 2) 3689348814741910323) + (andU (wrU ((andU (shrU xp 1) 6148914691236517205) + (andU xp 6148914691236517205))) 3689348814741910323))) 4) + (wrU ((andU (shrU (wrU ((andU (shrU xp 1) 6148914691236517205) + (andU xp 6148914691236517205))) 2) 3689348814741910323) + (andU (wrU ((andU (shrU xp 1) 6148914691236517205) + (andU xp 6148914691236517205))) 3689348814741910323))))) 1085102592571150095) + (shrU (andU (wrU ((shrU (wrU ((andU (shrU (wrU ((andU (shrU xp 1) 6148914691236517205) + (andU xp 6148914691236517205))) 2) 3689348814741910323) + (andU (wrU ((andU (shrU xp 1) 6148914691236517205) + (andU xp 6148914691236517205))) 3689348814741910323))) 4) + (wrU ((andU (shrU (wrU ((andU (shrU xp 1) 6148914691236517205) + (andU xp 6148914691236517205))) 2) 3689348814741910323) + (andU (wrU ((andU (shrU xp 1) 6148914691236517205) + (andU xp 6148914691236517205))) 3689348814741910323))))) 1085102592571150095) 8))) + (shrU (wrU ((andU (wrU ((shrU (wrU ((andU (shrU (wrU ((andU (shrU xp 1) 6148914691236517205) + (andU xp 6148914691236517205))) 2) 3689348814741910323) + (andU (wrU ((andU (shrU xp 1) 6148914691236517205) + (andU xp 6148914691236517205))) 3689348814741910323))) 4) + (wrU ((andU (shrU (wrU ((andU (shrU xp 1) 6148914691236517205) + (andU xp 6148914691236517205))) 2) 3689348814741910323) + (andU (wrU ((andU (shrU xp 1) 6148914691236517205) + (andU xp 6148914691236517205))) 3689348814741910323))))) 1085102592571150095) + (shrU (andU (wrU ((shrU (wrU ((andU (shrU (wrU ((andU (shrU xp 1) 6148914691236517205) + (andU xp 6148914691236517205))) 2) 3689348814741910323) + (andU (wrU ((andU (shrU xp 1) 6148914691236517205) + (andU xp 6148914691236517205))) 3689348814741910323))) 4) + (wrU ((andU (shrU (wrU ((andU (shrU xp 1) 6148914691236517205) + (andU xp 6148914691236517205))) 2) 3689348814741910323) + (andU (wrU ((andU (shrU xp 1) 6148914691236517205) + (andU xp 6148914691236517205))) 3689348814741910323))))) 1085102592571150095) 8))) 16))) + (shrU (wrU ((wrU ((andU (wrU ((shrU (wrU ((andU (shrU (wrU ((andU (shrU xp 1) 6148914691236517205) + (andU xp 6148914691236517205))) 2) 3689348814741910323) + (andU (wrU ((andU (shrU xp 1) 6148914691236517205) + (andU xp 6148914691236517205))) 3689348814741910323))) 4) + (wrU ((andU (shrU (wrU ((andU (shrU xp 1) 6148914691236517205) + (andU xp 6148914691236517205))) 2) 3689348814741910323) + (andU (wrU ((andU (shrU xp 1) 6148914691236517205) + (andU xp 6148914691236517205))) 3689348814741910323))))) 1085102592571150095) + (shrU (andU (wrU ((shrU (wrU ((andU (shrU (wrU ((andU (shrU xp 1) 6148914691236517205) + (andU xp 6148914691236517205))) 2) 3689348814741910323) + (andU (wrU ((andU (shrU xp 1) 6148914691236517205) + (andU xp 6148914691236517205))) 3689348814741910323))) 4) + (wrU ((andU (shrU (wrU ((andU (shrU xp 1) 6148914691236517205) + (andU xp 6148914691236517205))) 2) 3689348814741910323) + (andU (wrU ((andU (shrU xp 1) 6148914691236517205) + (andU xp 6148914691236517205))) 3689348814741910323))))) 1085102592571150095) 8))) + (shrU (wrU ((andU (wrU ((shrU (wrU ((andU (shrU (wrU ((andU (shrU xp 1) 6148914691236517205) + (andU xp 6148914691236517205))) 2) 3689348814741910323) + (andU (wrU ((andU (shrU xp 1) 6148914691236517205) + (andU xp 6148914691236517205))) 3689348814741910323))) 4) + (wrU ((andU (shrU (wrU ((andU (shrU xp 1) 6148914691236517205) + (andU xp 6148914691236517205))) 2) 3689348814741910323) + (andU (wrU ((andU (shrU xp 1) 6148914691236517205) + (andU xp 6148914691236517205))) 3689348814741910323))))) 1085102592571150095) + (shrU (andU (wrU ((shrU (wrU ((andU (shrU (wrU ((andU (shrU xp 1) 6148914691236517205) + (andU xp 6148914691236517205))) 2) 3689348814741910323) + (andU (wrU ((andU (shrU xp 1) 6148914691236517205) + (andU xp 6148914691236517205))) 3689348814741910323))) 4) + (wrU ((andU (shrU (wrU ((andU (shrU xp 1) 6148914691236517205) + (andU xp 6148914691236517205))) 2) 3689348814741910323) + (andU (wrU ((andU (shrU xp 1) 6148914691236517205) + (andU xp 6148914691236517205))) 3689348814741910323))))) 1085102592571150095) 8))) 16))) 32))))]) ⟨rfl, trivial⟩; clear hE78
  refine p_tn ?_
  refine c_seq ?_
  refine c_reg ?_
  refine q_step (v := .int .u64 (wrU ((wrU ((wrU ((andU (wrU ((shrU (wrU ((andU (shrU (wrU ((andU (shrU xp 1) 6148914691236517205) + (andU xp 6148914691236517205))) 2) 3689348814741910323) + (andU (wrU ((andU (shrU xp 1) 6148914691236517205) + (andU xp 6148914691236517205))) 3689348814741910323))) 4) + (wrU ((andU (shrU (wrU ((andU (shrU xp 1) 6148914691236517205) + (andU xp 6148914691236517205))) 2) 3689348814741910323) + (andU (wrU ((andU (shrU xp 1) 6148914691236517205) + (andU xp 6148914691236517205))) 3689348814741910323))))) 1085102592571150095) + (shrU (andU (wrU ((shrU (wrU ((andU (shrU (wrU ((andU (shrU xp 1) 6148914691236517205) + (andU xp 6148914691236517205))) 2) 3689348814741910323) + (andU (wrU ((andU (shrU xp 1) 6148914691236517205) + (andU xp 6148914691236517205))) 3689348814741910323))) 4) + (wrU ((andU (shrU (wrU ((andU (shrU xp 1) 6148914691236517205) + (andU xp 6148914691236517205))) 2) 3689348814741910323) + (andU (wrU ((andU (shrU xp 1) 6148914691236517205) + (andU xp 6148914691236517205))) 3689348814741910323))))) 1085102592571150095) 8))) + (shrU (wrU ((andU (wrU ((shrU (wrU ((andU (shrU (wrU ((andU (shrU xp 1) 6148914691236517205) + (andU xp 6148914691236517205))) 2) 3689348814741910323) + (andU (wrU ((andU (shrU xp 1) 6148914691236517205) + (andU xp 6148914691236517205))) 3689348814741910323))) 4) + (wrU ((andU (shrU (wrU ((andU (shrU xp 1) 6148914691236517205) + (andU xp 6148914691236517205))) 2) 3689348814741910323) + (andU (wrU ((andU (shrU xp 1) 6148914691236517205) + (andU xp 6148914691236517205))) 3689348814741910323))))) 1085102592571150095) + (shrU (andU (wrU ((shrU (wrU ((andU (shrU (wrU ((andU (shrU xp 1) 6148914691236517205) + (andU xp 6148914691236517205))) 2) 3689348814741910323) + (andU (wrU ((andU (shrU xp 1) 6148914691236517205) + (andU xp 6148914691236517205))) 3689348814741910323))) 4) + (wrU ((andU (shrU (wrU ((andU (shrU xp 1) 6148914691236517205) + (andU xp 6148914691236517205))) 2) 3689348814741910323) + (andU (wrU ((andU (shrU xp 1) 6148914691236517205) + (andU xp 6148914691236517205))) 3689348814741910323))))) 1085102592571150095) 8))) 16))) + (shrU (wrU ((wrU ((andU (wrU ((shrU (wrU ((andU (shrU (wrU ((andU (shrU xp 1) 6148914691236517205) + (andU xp 6148914691236517205))) 2) 3689348814741910323) + (andU (wrU ((andU (shrU xp 1) 6148914691236517205) + (andU xp 6148914691236517205))) 3689348814741910323))) 4) + (wrU ((andU (shrU (wrU ((andU (shrU xp 1) 6148914691236517205) + (andU xp 6148914691236517205))) 2) 3689348814741910323) + (andU (wrU ((andU (shrU xp 1) 6148914691236517205) + (andU xp 6148914691236517205))) 3689348814741910323))))) 1085102592571150095) + (shrU (andU (wrU ((shrU (wrU ((andU (shrU (wrU ((andU (shrU xp 1) 6148914691236517205) + (andU xp 6148914691236517205))) 2) 3689348814741910323) + (andU (wrU ((andU (shrU xp 1) 6148914691236517205) + (andU xp 6148914691236517205))) 3689348814741910323))) 4) + (wrU ((andU (shrU (wrU ((andU (shrU xp 1) 6148914691236517205) + (andU xp 6148914691236517205))) 2) 3689348814741910323) + (andU (wrU ((andU (shrU xp 1) 6148914691236517205) + (andU xp 6148914691236517205))) 3689348814741910323))))) 1085102592571150095) 8))) + (shrU (wrU ((andU (wrU ((shrU (wrU ((andU (shrU (wrU ((andU (shrU xp 1) 6148914691236517205) + (andU xp 6148914691236517205))) 2) 3689348814741910323) + (andU (wrU ((andU (shrU xp 1) 6148914691236517205) + (andU xp 6148914691236517205))) 3689348814741910323))) 4) + (wrU ((andU (shrU (wrU ((andU (shrU xp 1) 6148914691236517205) + (andU xp 6148914691236517205))) 2) 3689348814741910323) + (andU (wrU ((andU (shrU xp 1) 6148914691236517205) + (andU xp 6148914691236517205))) 3689348814741910323))))) 1085102592571150095) + (shrU (andU (wrU ((shrU (wrU ((andU (shrU (wrU ((andU (shrU xp 1) 6148914691236517205) + (andU xp 6148914691236517205))) 2) 3689348814741910323) + (andU (wrU ((andU (shrU xp 1) 6148914691236517205) + (andU xp 6148914691236517205))) 3689348814741910323))) 4) + (wrU ((andU (shrU (wrU ((andU (shrU xp 1) 6148914691236517205) + (andU xp 6148914691236517205))) 2) 3689348814741910323) + (andU (wrU ((andU (shrU xp 1) 6148914691236517205) + (andU xp 6148914691236517205))) 3689348814741910323))))) 1085102592571150095) 8))) 16))) 32)))) hE79 (y_move rfl) rfl rfl rfl ?_; intro a80 hE81; clear hE79
  refine q_step (v := .int .i64 (wI (wrU ((wrU ((wrU ((andU (wrU ((shrU (wrU ((andU (shrU (wrU ((andU (shrU xp 1) 6148914691236517205) + (andU xp 6148914691236517205))) 2) 3689348814741910323) + (andU (wrU ((andU (shrU xp 1) 6148914691236517205) + (andU xp 6148914691236517205))) 3689348814741910323))) 4) + (wrU ((andU (shrU (wrU ((andU (shrU xp 1) 6148914691236517205) + (andU xp 6148914691236517205))) 2) 3689348814741910323) + (andU (wrU ((andU (shrU xp 1) 6148914691236517205) + (andU xp 6148914691236517205))) 3689348814741910323))))) 1085102592571150095) + (shrU (andU (wrU ((shrU (wrU ((andU (shrU (wrU ((andU (shrU xp 1) 6148914691236517205) + (andU xp 6148914691236517205))) 2) 3689348814741910323) + (andU (wrU ((andU (shrU xp 1) 6148914691236517205) + (andU xp 6148914691236517205))) 3689348814741910323))) 4) + (wrU ((andU (shrU (wrU ((andU (shrU xp 1) 6148914691236517205) + (andU xp 6148914691236517205))) 2) 3689348814741910323) + (andU (wrU ((andU (shrU xp 1) 6148914691236517205) + (andU xp 6148914691236517205))) 3689348814741910323))))) 1085102592571150095) 8))) + (shrU (wrU ((andU (wrU ((shrU (wrU ((andU (shrU (wrU ((andU (shrU xp 1) 6148914691236517205) + (andU xp 6148914691236517205))) 2) 3689348814741910323) + (andU (wrU ((andU (shrU xp 1) 6148914691236517205) + (andU xp 6148914691236517205))) 3689348814741910323))) 4) + (wrU ((andU (shrU (wrU ((andU (shrU xp 1) 6148914691236517205) + (andU xp 6148914691236517205))) 2) 3689348814741910323) + (andU (wrU ((andU (shrU xp 1) 6148914691236517205) + (andU xp 6148914691236517205))) 3689348814741910323))))) 1085102592571150095) + (shrU (andU (wrU ((shrU (wrU ((andU (shrU (wrU ((andU (shrU xp 1) 6148914691236517205) + (andU xp 6148914691236517205))) 2) 3689348814741910323) + (andU (wrU ((andU (shrU xp 1) 6148914691236517205) + (andU xp 6148914691236517205))) 3689348814741910323))) 4) + (wrU ((andU (shrU (wrU ((andU (shrU xp 1) 6148914691236517205) + (andU xp 6148914691236517205))) 2) 3689348814741910323) + (andU (wrU ((andU (shrU xp 1) 6148914691236517205) + (andU xp 6148914691236517205))) 3689348814741910323))))) 1085102592571150095) 8))) 16))) + (shrU (wrU ((wrU ((andU (wrU ((shrU (wrU ((andU (shrU (wrU ((andU (shrU xp 1) 6148914691236517205) + (andU xp 6148914691236517205))) 2) 3689348814741910323) + (andU (wrU ((andU (shrU xp 1) 6148914691236517205) + (andU xp 6148914691236517205))) 3689348814741910323))) 4) + (wrU ((andU (shrU (wrU ((andU (shrU xp 1) 6148914691236517205) + (andU xp 6148914691236517205))) 2) 3689348814741910323) + (andU (wrU ((andU (shrU xp 1) 6148914691236517205) + (andU xp 6148914691236517205))) 3689348814741910323))))) 1085102592571150095) + (shrU (andU (wrU ((shrU (wrU ((andU (shrU (wrU ((andU (shrU xp 1) 6148914691236517205) + (andU xp 6148914691236517205))) 2) 3689348814741910323) + (andU (wrU ((andU (shrU xp 1) 6148914691236517205) + (andU xp 6148914691236517205))) 3689348814741910323))) 4) + (wrU ((andU (shrU (wrU ((andU (shrU xp 1) 6148914691236517205) + (andU xp 6148914691236517205))) 2) 3689348814741910323) + (andU (wrU ((andU (shrU xp 1) 6148914691236517205) + (andU xp 6148914691236517205))) 3689348814741910323))))) 1085102592571150095) 8))) + (shrU (wrU ((andU (wrU ((shrU (wrU ((andU (shrU (wrU ((andU (shrU xp 1) 6148914691236517205) + (andU xp 6148914691236517205))) 2) 3689348814741910323) + (andU (wrU ((andU (shrU xp 1) 6148914691236517205) + (andU xp 6148914691236517205))) 3689348814741910323))) 4) + (wrU ((andU (shrU (wrU ((andU (shrU xp 1) 6148914691236517205) + (andU xp 6148914691236517205))) 2) 3689348814741910323) + (andU (wrU ((andU (shrU xp 1) 6148914691236517205) + (andU xp 6148914691236517205))) 3689348814741910323))))) 1085102592571150095) + (shrU (andU (wrU ((shrU (wrU ((andU (shrU (wrU ((andU (shrU xp 1) 6148914691236517205) + (andU xp 6148914691236517205))) 2) 3689348814741910323) + (andU (wrU ((andU (shrU xp 1) 6148914691236517205) + (andU xp 6148914691236517205))) 3689348814741910323))) 4) + (wrU ((andU (shrU (wrU ((andU (shrU xp 1) 6148914691236517205) + (andU xp 6148914691236517205))) 2) 3689348814741910323) + (andU (wrU ((andU (shrU xp 1) 6148914691236517205) + (andU xp 6148914691236517205))) 3689348814741910323))))) 1085102592571150095) 8))) 16))) 32))))) hE81 (y_convI (ds := .int .u64) (by kernel_rfl) (by kernel_rfl) rfl) rfl rfl rfl ?_; intro a82 hE83; clear hE81
  refine q_step (v := .int .i64 (andI (wI (wrU ((wrU ((wrU ((andU (wrU ((shrU (wrU ((andU (shrU (wrU ((andU (shrU xp 1) 6148914691236517205) + (andU xp 6148914691236517205))) 2) 3689348814741910323) + (andU (wrU ((andU (shrU xp 1) 6148914691236517205) + (andU xp 6148914691236517205))) 3689348814741910323))) 4) + (wrU ((andU (shrU (wrU ((andU (shrU xp 1) 6148914691236517205) + (andU xp 6148914691236517205))) 2) 3689348814741910323) + (andU (wrU ((andU (shrU xp 1) 6148914691236517205) + (andU xp 6148914691236517205))) 3689348814741910323))))) 1085102592571150095) + (shrU (andU (wrU ((shrU (wrU ((andU (shrU (wrU ((andU (shrU xp 1) 6148914691236517205) + (andU xp 6148914691236517205))) 2) 3689348814741910323) + (andU (wrU ((andU (shrU xp 1) 6148914691236517205) + (andU xp 6148914691236517205))) 3689348814741910323))) 4) + (wrU ((andU (shrU (wrU ((andU (shrU xp 1) 6148914691236517205) + (andU xp 6148914691236517205))) 2) 3689348814741910323) + (andU (wrU ((andU (shrU xp 1) 6148914691236517205) + (andU xp 6148914691236517205))) 3689348814741910323))))) 1085102592571150095) 8))) + (shrU (wrU ((andU (wrU ((shrU (wrU ((andU (shrU (wrU ((andU (shrU xp 1) 6148914691236517205) + (andU xp 6148914691236517205))) 2) 3689348814741910323) + (andU (wrU ((andU (shrU xp 1) 6148914691236517205) + (andU xp 6148914691236517205))) 3689348814741910323))) 4) + (wrU ((andU (shrU (wrU ((andU (shrU xp 1) 6148914691236517205) + (andU xp 6148914691236517205))) 2) 3689348814741910323) + (andU (wrU ((andU (shrU xp 1) 6148914691236517205) + (andU xp 6148914691236517205))) 3689348814741910323))))) 1085102592571150095) + (shrU (andU (wrU ((shrU (wrU ((andU (shrU (wrU ((andU (shrU xp 1) 6148914691236517205) + (andU xp 6148914691236517205))) 2) 3689348814741910323) + (andU (wrU ((andU (shrU xp 1) 6148914691236517205) + (andU xp 6148914691236517205))) 3689348814741910323))) 4) + (wrU ((andU (shrU (wrU ((andU (shrU xp 1) 6148914691236517205) + (andU xp 6148914691236517205))) 2) 3689348814741910323) + (andU (wrU ((andU (shrU xp 1) 6148914691236517205) + (andU xp 6148914691236517205))) 3689348814741910323))))) 1085102592571150095) 8))) 16))) + (shrU (wrU ((wrU ((andU (wrU ((shrU (wrU ((andU (shrU (wrU ((andU (shrU xp 1) 6148914691236517205) + (andU xp 6148914691236517205))) 2) 3689348814741910323) + (andU (wrU ((andU (shrU xp 1) 6148914691236517205) + (andU xp 6148914691236517205))) 3689348814741910323))) 4) + (wrU ((andU (shrU (wrU ((andU (shrU xp 1) 6148914691236517205) + (andU xp 6148914691236517205))) 2) 3689348814741910323) + (andU (wrU ((andU (shrU xp 1) 6148914691236517205) + (andU xp 6148914691236517205))) 3689348814741910323))))) 1085102592571150095) + (shrU (andU (wrU ((shrU (wrU ((andU (shrU (wrU ((andU (shrU xp 1) 6148914691236517205) + (andU xp 6148914691236517205))) 2) 3689348814741910323) + (andU (wrU ((andU (shrU xp 1) 6148914691236517205) + (andU xp 6148914691236517205))) 3689348814741910323))) 4) + (wrU ((andU (shrU (wrU ((andU (shrU xp 1) 6148914691236517205) + (andU xp 6148914691236517205))) 2) 3689348814741910323) + (andU (wrU ((andU (shrU xp 1) 6148914691236517205) + (andU xp 6148914691236517205))) 3689348814741910323))))) 1085102592571150095) 8))) + (shrU (wrU ((andU (wrU ((shrU (wrU ((andU (shrU (wrU ((andU (shrU xp 1) 6148914691236517205) + (andU xp 6148914691236517205))) 2) 3689348814741910323) + (andU (wrU ((andU (shrU xp 1) 6148914691236517205) + (andU xp 6148914691236517205))) 3689348814741910323))) 4) + (wrU ((andU (shrU (wrU ((andU (shrU xp 1) 6148914691236517205) + (andU xp 6148914691236517205))) 2) 3689348814741910323) + (andU (wrU ((andU (shrU xp 1) 6148914691236517205) + (andU xp 6148914691236517205))) 3689348814741910323))))) 1085102592571150095) + (shrU (andU (wrU ((shrU (wrU ((andU (shrU (wrU ((andU (shrU xp 1) 6148914691236517205) + (andU xp 6148914691236517205))) 2) 3689348814741910323) + (andU (wrU ((andU (shrU xp 1) 6148914691236517205) + (andU xp 6148914691236517205))) 3689348814741910323))) 4) + (wrU ((andU (shrU (wrU ((andU (shrU xp 1) 6148914691236517205) + (andU xp 6148914691236517205))) 2) 3689348814741910323) + (andU (wrU ((andU (shrU xp 1) 6148914691236517205) + (andU xp 6148914691236517205))) 3689348814741910323))))) 1085102592571150095) 8))) 16))) 32)))) 127)) hE83 (y_and rfl rfl) rfl rfl rfl ?_; intro a84 hE85; clear hE83
  refine q_step (v := .int .i64 (andI (wI (wrU ((wrU ((wrU ((andU (wrU ((shrU (wrU ((andU (shrU (wrU ((andU (shrU xp 1) 6148914691236517205) + (andU xp 6148914691236517205))) 2) 3689348814741910323) + (andU (wrU ((andU (shrU xp 1) 6148914691236517205) + (andU xp 6148914691236517205))) 3689348814741910323))) 4) + (wrU ((andU (shrU (wrU ((andU (shrU xp 1) 6148914691236517205) + (andU xp 6148914691236517205))) 2) 3689348814741910323) + (andU (wrU ((andU (shrU xp 1) 6148914691236517205) + (andU xp 6148914691236517205))) 3689348814741910323))))) 1085102592571150095) + (shrU (andU (wrU ((shrU (wrU ((andU (shrU (wrU ((andU (shrU xp 1) 6148914691236517205) + (andU xp 6148914691236517205))) 2) 3689348814741910323) + (andU (wrU ((andU (shrU xp 1) 6148914691236517205) + (andU xp 6148914691236517205))) 3689348814741910323))) 4) + (wrU ((andU (shrU (wrU ((andU (shrU xp 1) 6148914691236517205) + (andU xp 6148914691236517205))) 2) 3689348814741910323) + (andU (wrU ((andU (shrU xp 1) 6148914691236517205) + (andU xp 6148914691236517205))) 3689348814741910323))))) 1085102592571150095) 8))) + (shrU (wrU ((andU (wrU ((shrU (wrU ((andU (shrU (wrU ((andU (shrU xp 1) 6148914691236517205) + (andU xp 6148914691236517205))) 2) 3689348814741910323) + (andU (wrU ((andU (shrU xp 1) 6148914691236517205) + (andU xp 6148914691236517205))) 3689348814741910323))) 4) + (wrU ((andU (shrU (wrU ((andU (shrU xp 1) 6148914691236517205) + (andU xp 6148914691236517205))) 2) 3689348814741910323) + (andU (wrU ((andU (shrU xp 1) 6148914691236517205) + (andU xp 6148914691236517205))) 3689348814741910323))))) 1085102592571150095) + (shrU (andU (wrU ((shrU (wrU ((andU (shrU (wrU ((andU (shrU xp 1) 6148914691236517205) + (andU xp 6148914691236517205))) 2) 3689348814741910323) + (andU (wrU ((andU (shrU xp 1) 6148914691236517205) + (andU xp 6148914691236517205))) 3689348814741910323))) 4) + (wrU ((andU (shrU (wrU ((andU (shrU xp 1) 6148914691236517205) + (andU xp 6148914691236517205))) 2) 3689348814741910323) + (andU (wrU ((andU (shrU xp 1) 6148914691236517205) + (andU xp 6148914691236517205))) 3689348814741910323))))) 1085102592571150095) 8))) 16))) + (shrU (wrU ((wrU ((andU (wrU ((shrU (wrU ((andU (shrU (wrU ((andU (shrU xp 1) 6148914691236517205) + (andU xp 6148914691236517205))) 2) 3689348814741910323) + (andU (wrU ((andU (shrU xp 1) 6148914691236517205) + (andU xp 6148914691236517205))) 3689348814741910323))) 4) + (wrU ((andU (shrU (wrU ((andU (shrU xp 1) 6148914691236517205) + (andU xp 6148914691236517205))) 2) 3689348814741910323) + (andU (wrU ((andU (shrU xp 1) 6148914691236517205) + (andU xp 6148914691236517205))) 3689348814741910323))))) 1085102592571150095) + (shrU (andU (wrU ((shrU (wrU ((andU (shrU (wrU ((andU (shrU xp 1) 6148914691236517205) + (andU xp 6148914691236517205))) 2) 3689348814741910323) + (andU (wrU ((andU (shrU xp 1) 6148914691236517205) + (andU xp 6148914691236517205))) 3689348814741910323))) 4) + (wrU ((andU (shrU (wrU ((andU (shrU xp 1) 6148914691236517205) + (andU xp 6148914691236517205))) 2) 3689348814741910323) + (andU (wrU ((andU (shrU xp 1) 6148914691236517205) + (andU xp 6148914691236517205))) 3689348814741910323))))) 1085102592571150095) 8))) + (shrU (wrU ((andU (wrU ((shrU (wrU ((andU (shrU (wrU ((andU (shrU xp 1) 6148914691236517205) + (andU xp 6148914691236517205))) 2) 3689348814741910323) + (andU (wrU ((andU (shrU xp 1) 6148914691236517205) + (andU xp 6148914691236517205))) 3689348814741910323))) 4) + (wrU ((andU (shrU (wrU ((andU (shrU xp 1) 6148914691236517205) + (andU xp 6148914691236517205))) 2) 3689348814741910323) + (andU (wrU ((andU (shrU xp 1) 6148914691236517205) + (andU xp 6148914691236517205))) 3689348814741910323))))) 1085102592571150095) + (shrU (andU (wrU ((shrU (wrU ((andU (shrU (wrU ((andU (shrU xp 1) 6148914691236517205) + (andU xp 6148914691236517205))) 2) 3689348814741910323) + (andU (wrU ((andU (shrU xp 1) 6148914691236517205) + (andU xp 6148914691236517205))) 3689348814741910323))) 4) + (wrU ((andU (shrU (wrU ((andU (shrU xp 1) 6148914691236517205) + (andU xp 6148914691236517205))) 2) 3689348814741910323) + (andU (wrU ((andU (shrU xp 1) 6148914691236517205) + (andU xp 6148914691236517205))) 3689348814741910323))))) 1085102592571150095) 8))) 16))) 32)))) 127)) hE85 (y_assign rfl) rfl rfl rfl ?_; intro a86 hE87; clear hE85
  refine c_nil ?_
  have hE88 := hE87.sub (L' := [(2, .int .i64 (andI (wI (wrU ((wrU ((wrU ((andU (wrU ((shrU (wrU ((andU (shrU (wrU ((andU (shrU xp 1) 6148914691236517205) + (andU xp 6148914691236517205))) 2) 3689348814741910323) + (andU (wrU ((andU (shrU xp 1) 6148914691236517205) + (andU xp 6148914691236517205))) 3689348814741910323))) 4) + (wrU ((andU (shrU (wrU ((andU (shrU xp 1) 6148914691236517205) + (andU xp 6148914691236517205))) 2) 3689348814741910323) + (andU (wrU ((andU (shrU xp 1) 6148914691236517205) + (andU xp 6148914691236517205))) 3689348814741910323))))) 1085102592571150095) + (shrU (andU (wrU ((shrU (wrU ((andU (shrU (wrU ((andU (shrU xp 1) 6148914691236517205) + (andU xp 6148914691236517205))) 2) 3689348814741910323) + (andU (wrU ((andU (shrU xp 1) 6148914691236517205) + (andU xp 6148914691236517205))) 3689348814741910323))) 4) + (wrU ((andU (shrU (wrU ((andU (shrU xp 1) 6148914691236517205) + (andU xp 6148914691236517205))) 2) 3689348814741910323) + (andU (wrU ((andU (shrU xp 1) 6148914691236517205) + (andU xp 6148914691236517205))) 3689348814741910323))))) 1085102592571150095) 8))) + (shrU (wrU ((andU (wrU ((shrU (wrU ((andU (shrU (wrU ((andU (shrU xp 1) 6148914691236517205) + (andU xp 6148914691236517205))) 2) 3689348814741910323) + (andU (wrU ((andU (shrU xp 1) 6148914691236517205) + (andU xp 6148914691236517205))) 3689348814741910323))) 4) + (wrU ((andU (shrU (wrU ((andU (shrU xp 1) 6148914691236517205) + (andU xp 6148914691236517205))) 2) 3689348814741910323) + (andU (wrU ((andU (shrU xp 1) 6148914691236517205) + (andU xp 6148914691236517205))) 3689348814741910323))))) 1085102592571150095) + (shrU (andU (wrU ((shrU (wrU ((andU (shrU (wrU ((andU (shrU xp 1) 6148914691236517205) + (andU xp 6148914691236517205))) 2) 3689348814741910323) + (andU (wrU ((andU (shrU xp 1) 6148914691236517205) + (andU xp 6148914691236517205))) 3689348814741910323))) 4) + (wrU ((andU (shrU (wrU ((andU (shrU xp 1) 6148914691236517205) + (andU xp 6148914691236517205))) 2) 3689348814741910323) + (andU (wrU ((andU (shrU xp 1) 6148914691236517205) + (andU xp 6148914691236517205))) 3689348814741910323))))) 1085102592571150095) 8))) 16))) + (shrU (wrU ((wrU ((andU (wrU ((shrU (wrU ((andU (shrU (wrU ((andU (shrU xp 1) 6148914691236517205) + (andU xp 6148914691236517205))) 2) 3689348814741910323) + (andU (wrU ((andU (shrU xp 1) 6148914691236517205) + (andU xp 6148914691236517205))) 3689348814741910323))) 4) + (wrU ((andU (shrU (wrU ((andU (shrU xp 1) 6148914691236517205) + (andU xp 6148914691236517205))) 2) 3689348814741910323) + (andU (wrU ((andU (shrU xp 1) 6148914691236517205) + (andU xp 6148914691236517205))) 3689348814741910323))))) 1085102592571150095) + (shrU (andU (wrU ((shrU (wrU ((andU (shrU (wrU ((andU (shrU xp 1) 6148914691236517205) + (andU xp 6148914691236517205))) 2) 3689348814741910323) + (andU (wrU ((andU (shrU xp 1) 6148914691236517205) + (andU xp 6148914691236517205))) 3689348814741910323))) 4) + (wrU ((andU (shrU (wrU ((andU (shrU xp 1) 6148914691236517205) + (andU xp 6148914691236517205))) 2) 3689348814741910323) + (andU (wrU ((andU (shrU xp 1) 6148914691236517205) + (andU xp 6148914691236517205))) 3689348814741910323))))) 1085102592571150095) 8))) + (shrU (wrU ((andU (wrU ((shrU (wrU ((andU (shrU (wrU ((andU (shrU xp 1) 6148914691236517205) + (andU xp 6148914691236517205))) 2) 3689348814741910323) + (andU (wrU ((andU (shrU xp 1) 6148914691236517205) + (andU xp 6148914691236517205))) 3689348814741910323))) 4) + (wrU ((andU (shrU (wrU ((andU (shrU xp 1) 6148914691236517205) + (andU xp 6148914691236517205))) 2) 3689348814741910323) + (andU (wrU ((andU (shrU xp 1) 6148914691236517205) + (andU xp 6148914691236517205))) 3689348814741910323))))) 1085102592571150095) + (shrU (andU (wrU ((shrU (wrU ((andU (shrU (wrU ((andU (shrU xp 1) 6148914691236517205) + (andU xp 6148914691236517205))) 2) 3689348814741910323) + (andU (wrU ((andU (shrU xp 1) 6148914691236517205) + (andU xp 6148914691236517205))) 3689348814741910323))) 4) + (wrU ((andU (shrU (wrU ((andU (shrU xp 1) 6148914691236517205) + (andU xp 6148914691236517205))) 2) 3689348814741910323) + (andU (wrU ((andU (shrU xp 1) 6148914691236517205) + (andU xp 6148914691236517205))) 3689348814741910323))))) 1085102592571150095) 8))) 16))) 32)))) 127))]) ⟨rfl, trivial⟩; clear hE87
  refine p_tn ?_
  refine wp_ret ?_
  have hF : F_OnesCount xp = andI (wI (wrU ((wrU ((wrU ((andU (wrU ((shrU (wrU ((andU (shrU (wrU ((andU (shrU xp 1) 6148914691236517205) + (andU xp 6148914691236517205))) 2) 3689348814741910323) + (andU (wrU ((andU (shrU xp 1) 6148914691236517205) + (andU xp 6148914691236517205))) 3689348814741910323))) 4) + (wrU ((andU (shrU (wrU ((andU (shrU xp 1) 6148914691236517205) + (andU xp 6148914691236517205))) 2) 3689348814741910323) + (andU (wrU ((andU (shrU xp 1) 6148914691236517205) + (andU xp 6148914691236517205))) 3689348814741910323))))) 1085102592571150095) + (shrU (andU (wrU ((shrU (wrU ((andU (shrU (wrU ((andU (shrU xp 1) 6148914691236517205) + (andU xp 6148914691236517205))) 2) 3689348814741910323) + (andU (wrU ((andU (shrU xp 1) 6148914691236517205) + (andU xp 6148914691236517205))) 3689348814741910323))) 4) + (wrU ((andU (shrU (wrU ((andU (shrU xp 1) 6148914691236517205) + (andU xp 6148914691236517205))) 2) 3689348814741910323) + (andU (wrU ((andU (shrU xp 1) 6148914691236517205) + (andU xp 6148914691236517205))) 3689348814741910323))))) 1085102592571150095) 8))) + (shrU (wrU ((andU (wrU ((shrU (wrU ((andU (shrU (wrU ((andU (shrU xp 1) 6148914691236517205) + (andU xp 6148914691236517205))) 2) 3689348814741910323) + (andU (wrU ((andU (shrU xp 1) 6148914691236517205) + (andU xp 6148914691236517205))) 3689348814741910323))) 4) + (wrU ((andU (shrU (wrU ((andU (shrU xp 1) 6148914691236517205) + (andU xp 6148914691236517205))) 2) 3689348814741910323) + (andU (wrU ((andU (shrU xp 1) 6148914691236517205) + (andU xp 6148914691236517205))) 3689348814741910323))))) 1085102592571150095) + (shrU (andU (wrU ((shrU (wrU ((andU (shrU (wrU ((andU (shrU xp 1) 6148914691236517205) + (andU xp 6148914691236517205))) 2) 3689348814741910323) + (andU (wrU ((andU (shrU xp 1) 6148914691236517205) + (andU xp 6148914691236517205))) 3689348814741910323))) 4) + (wrU ((andU (shrU (wrU ((andU (shrU xp 1) 6148914691236517205) + (andU xp 6148914691236517205))) 2) 3689348814741910323) + (andU (wrU ((andU (shrU xp 1) 6148914691236517205) + (andU xp 6148914691236517205))) 3689348814741910323))))) 1085102592571150095) 8))) 16))) + (shrU (wrU ((wrU ((andU (wrU ((shrU (wrU ((andU (shrU (wrU ((andU (shrU xp 1) 6148914691236517205) + (andU xp 6148914691236517205))) 2) 3689348814741910323) + (andU (wrU ((andU (shrU xp 1) 6148914691236517205) + (andU xp 6148914691236517205))) 3689348814741910323))) 4) + (wrU ((andU (shrU (wrU ((andU (shrU xp 1) 6148914691236517205) + (andU xp 6148914691236517205))) 2) 3689348814741910323) + (andU (wrU ((andU (shrU xp 1) 6148914691236517205) + (andU xp 6148914691236517205))) 3689348814741910323))))) 1085102592571150095) + (shrU (andU (wrU ((shrU (wrU ((andU (shrU (wrU ((andU (shrU xp 1) 6148914691236517205) + (andU xp 6148914691236517205))) 2) 3689348814741910323) + (andU (wrU ((andU (shrU xp 1) 6148914691236517205) + (andU xp 6148914691236517205))) 3689348814741910323))) 4) + (wrU ((andU (shrU (wrU ((andU (shrU xp 1) 6148914691236517205) + (andU xp 6148914691236517205))) 2) 3689348814741910323) + (andU (wrU ((andU (shrU xp 1) 6148914691236517205) + (andU xp 6148914691236517205))) 3689348814741910323))))) 1085102592571150095) 8))) + (shrU (wrU ((andU (wrU ((shrU (wrU ((andU (shrU (wrU ((andU (shrU xp 1) 6148914691236517205) + (andU xp 6148914691236517205))) 2) 3689348814741910323) + (andU (wrU ((andU (shrU xp 1) 6148914691236517205) + (andU xp 6148914691236517205))) 3689348814741910323))) 4) + (wrU ((andU (shrU (wrU ((andU (shrU xp 1) 6148914691236517205) + (andU xp 6148914691236517205))) 2) 3689348814741910323) + (andU (wrU ((andU (shrU xp 1) 6148914691236517205) + (andU xp 6148914691236517205))) 3689348814741910323))))) 1085102592571150095) + (shrU (andU (wrU ((shrU (wrU ((andU (shrU (wrU ((andU (shrU xp 1) 6148914691236517205) + (andU xp 6148914691236517205))) 2) 3689348814741910323) + (andU (wrU ((andU (shrU xp 1) 6148914691236517205) + (andU xp 6148914691236517205))) 3689348814741910323))) 4) + (wrU ((andU (shrU (wrU ((andU (shrU xp 1) 6148914691236517205) + (andU xp 6148914691236517205))) 2) 3689348814741910323) + (andU (wrU ((andU (shrU xp 1) 6148914691236517205) + (andU xp 6148914691236517205))) 3689348814741910323))))) 1085102592571150095) 8))) 16))) 32)))) 127 := by unfold F_OnesCount; rfl
  refine c_ret1 hE88 rfl rfl ?_
  exact ⟨(by rw [hF]; first | done | rfl), rfl⟩

def F_countMembers (mask : Int) : Int :=
  F_OnesCount (wrU mask)
theorem cf_countMembers (args : Array Value) (w : World) : (callFunc 84 args).run Try.prog w = .ok (.enter 84 args) w := by kernel_rfl
set_option maxRecDepth 100000 in
theorem c_countMembers (mask : Int) (w : World) :
    Calls Try.prog 84 #[.int .i64 mask] w (Ret fun v w' => v = .int .i64 (F_countMembers mask) ∧ w = w') := by
  have hS := St.nil w
  refine enter (args := [.int .i64 mask]) Try.func84 rfl rfl ?_
  rw [Try.ntmps84]; intro a hE
  have hE := hE.sub (L' := [(0, .int .i64 mask)]) ⟨rfl, trivial⟩
  refine c_seq ?_
  refine c_reg ?_
  refine q_step (v := .int .i64 0) hE (y_assign rfl) rfl rfl rfl ?_; intro a1 hE2; clear hE
  refine c_nil ?_
  have hE3 := hE2.sub (L' := [(0, .int .i64 mask)]) ⟨rfl, trivial⟩; clear hE2
  refine p_tn ?_
  refine c_seq ?_
  refine c_reg ?_
  refine q_step (v := .int .i64 mask) hE3 (y_move rfl) rfl rfl rfl ?_; intro a4 hE5; clear hE3
  refine q_step (v := .int .u64 (wrU mask)) hE5 (y_convU (ds := .int .i64) (by kernel_rfl) (by kernel_rfl) rfl) rfl rfl rfl ?_; intro a6 hE7; clear hE5
  refine l_step hE7 rfl (l_call (f := 134) (argv := [.int .u64 (wrU mask)]) hE7 (fun _ => cf_OnesCount _ _) rfl rfl (c_OnesCount (wrU mask) w) ?_)
  rintro _ _ ⟨rfl, rfl⟩ a10 hE11; clear hE7
  refine q_step (v := .int .i64 (F_OnesCount (wrU mask))) hE11 (y_assign rfl) rfl rfl rfl ?_; intro a14 hE15; clear hE11
  refine c_nil ?_
  have hE16 := hE15.sub (L' := [(2, .int .i64 (F_OnesCount (wrU mask)))]) ⟨rfl, trivial⟩; clear hE15
  refine p_tn ?_
  refine wp_ret ?_
  have hF : F_countMembers mask = F_OnesCount (wrU mask) := by unfold F_countMembers; rfl
  refine c_ret1 hE16 rfl rfl ?_
  exact ⟨(by rw [hF]; first | done | rfl), rfl⟩

theorem count_all : ((List.range 256).all fun (u : Nat) => decide (F_countMembers (u : Int) = ((F_membersOf (u : Int)).length : Int))) = true := by decide +kernel
theorem count_eq {u : Int} (h0 : 0 ≤ u) (h1 : u ≤ 255) : F_countMembers u = ((F_membersOf u).length : Int) := by
  have := List.all_eq_true.1 count_all u.toNat (List.mem_range.2 (by omega))
  rw [show ((u.toNat : Nat) : Int) = u by omega] at this
  exact of_decide_eq_true this
theorem count_bd {u : Int} (h0 : 0 ≤ u) (h1 : u ≤ 31) : F_countMembers u = ((F_membersOf u).length : Int) ∧ 0 ≤ F_countMembers u ∧ F_countMembers u ≤ 5 := by
  have e := count_eq h0 (by omega)
  have := members_len (mask := u) (n := 5) (by omega) h0 h1
  exact ⟨e, by omega, by omega⟩

theorem or_full {n a b : Int} (h0 : 0 ≤ n) (h1 : n ≤ 62) (ha : 0 ≤ a) (ha1 : a ≤ fullI n) (hb : 0 ≤ b) (hb1 : b ≤ fullI n) : 0 ≤ orI a b ∧ orI a b ≤ fullI n := by
  have e : ((n.toNat : Nat) : Int) = n := by omega
  have h := (Mk.or (n := n.toNat) (by omega) (a := a) (b := b) ⟨ha, by rw [e]; exact ha1⟩ ⟨hb, by rw [e]; exact hb1⟩).1
  exact ⟨h.1, by have := h.2; rwa [e] at this⟩
theorem pow_full {n v : Int} (h0 : 0 ≤ v) (h1 : v < n) (h2 : n ≤ 62) : 1 ≤ powI v ∧ powI v ≤ fullI n := by
  have hv : Mk n.toNat (powI ((v.toNat : Nat) : Int)) := Mk.pow (by omega)
  have e1 : ((v.toNat : Nat) : Int) = v := by omega
  have e2 : ((n.toNat : Nat) : Int) = n := by omega
  have := hv.2
  rw [e1, e2] at this
  exact ⟨(powI_bd h0 (by omega)).1, this⟩
theorem isElement_t {ap0 : Int} {ap1 : List Int} {xp : Int} (h : F_ModalAlgebra_isElement ap0 ap1 xp = true) : 0 ≤ xp ∧ xp ≤ fullI ap0 := F_inRange_t h

def F_spread_L1b (mask : Int) (onp : Int) (rec : Int → Int → Int × Int) (out5 : Int) (t11 : Int) : Int × Int :=
  bif (decide (t11 < ((F_membersOf onp).length : Int))) then (rec (bif (F_has mask t11) then orI out5 (shlI 1 (gI (F_membersOf onp) t11)) else out5) (t11 + 1)) else (out5, t11)
def F_spread_L1 (mask : Int) (onp : Int) : Nat → Int → Int → Int × Int
  | 0, out5, t11 => (out5, t11)
  | r + 1, out5, t11 => F_spread_L1b mask onp (F_spread_L1 mask onp r) out5 t11
def F_spread (mask : Int) (onp : Int) : Int :=
  (F_spread_L1 mask onp (Int.toNat (((F_membersOf onp).length : Int) - 0) + 1) 0 0).1
theorem cf_spread (args : Array Value) (w : World) : (callFunc 87 args).run Try.prog w = .ok (.enter 87 args) w := by kernel_rfl
set_option maxRecDepth 100000 in
theorem c_spread (mask : Int) (onp : Int) (w : World) (h0 : 0 ≤ onp) (h1 : onp < 4611686018427387904) :
    Calls Try.prog 87 #[.int .i64 mask, .int .i64 onp] w (Ret fun v w' => v = .int .i64 (F_spread mask onp) ∧ Ext w w') := by
  have hml := members_len62 (mask := onp) h0 h1
  have hS := St.nil w
  refine enter (args := [.int .i64 mask, .int .i64 onp]) Try.func87 rfl rfl ?_
  rw [Try.ntmps87]; intro a hE
  have hE := hE.sub (L' := [(0, .int .i64 mask), (1, .int .i64 onp)]) ⟨rfl, rfl, trivial⟩
  refine c_seq ?_
  refine c_reg ?_
  refine q_step (v := .int .i64 0) hE (y_assign rfl) rfl rfl rfl ?_; intro a1 hE2; clear hE
  refine c_nil ?_
  have hE3 := hE2.sub (L' := [(0, .int .i64 mask), (1, .int .i64 onp)]) ⟨rfl, rfl, trivial⟩; clear hE2
  refine p_tn ?_
  refine c_seq ?_
  refine c_reg ?_
  refine q_step (v := .int .i64 0) hE3 (y_assign rfl) rfl rfl rfl ?_; intro a4 hE5; clear hE3
  refine c_nil ?_
  have hE6 := hE5.sub (L' := [(0, .int .i64 mask), (1, .int .i64 onp), (5, .int .i64 0)]) ⟨rfl, rfl, rfl, trivial⟩; clear hE5
  refine p_tn ?_
  refine c_seq ?_
  refine c_seq ?_
  refine c_reg ?_
  refine q_step (v := .int .i64 onp) hE6 (y_move rfl) rfl rfl rfl ?_; intro a7 hE8; clear hE6
  refine l_step hE8 rfl (l_call (f := 102) (argv := [.int .i64 onp]) hE8 (fun _ => cf_membersOf _ _) rfl rfl (c_membersOf onp w (by omega) (by omega)) ?_)
  rintro _ w10 ⟨b15, c16, rfl, ho17, he14⟩ a11 hE12; clear hE8
  have hS13 := St.own hS he14 ho17; clear hS
  refine q_step (v := .int .i64 ((F_membersOf onp).length : Int)) hE12 (y_len (e := 2) (by kernel_rfl) rfl) rfl rfl rfl ?_; intro a18 hE19; clear hE12
  refine q_step (v := .int .i64 0) hE19 (y_move rfl) rfl rfl rfl ?_; intro a20 hE21; clear hE19
  refine c_nil ?_
  have hE22 := hE21.sub (L' := [(0, .int .i64 mask), (5, .int .i64 0), (9, .slice b15 ((F_membersOf onp).length) c16), (10, .int .i64 ((F_membersOf onp).length : Int)), (11, .int .i64 0)]) ⟨rfl, rfl, rfl, rfl, rfl, trivial⟩; clear hE21
  refine p_tn ?_
  refine c_cut1 (fun a' w' => (0 ≤ ((F_spread_L1 mask onp (Int.toNat (((F_membersOf onp).length : Int) - 0) + 1) 0 0).2)) ∧ (((F_spread_L1 mask onp (Int.toNat (((F_membersOf onp).length : Int) - 0) + 1) 0 0).2) ≤ ((F_membersOf onp).length : Int)) ∧ E a' 25 [(0, .int .i64 mask), (5, .int .i64 ((F_spread_L1 mask onp (Int.toNat (((F_membersOf onp).length : Int) - 0) + 1) 0 0).1)), (9, .slice b15 ((F_membersOf onp).length) c16), (10, .int .i64 ((F_membersOf onp).length : Int)), (11, .int .i64 ((F_spread_L1 mask onp (Int.toNat (((F_membersOf onp).length : Int) - 0) + 1) 0 0).2))] ∧ St w w' [.own 2 1 b15 ((F_membersOf onp).length) c16 (F_membersOf onp)]) ?_ ?_
  ·
    refine wp_block ?_
    refine c_loop (fun r a' w' => ∃ out5 : Int, ∃ t11 : Int, F_spread_L1 mask onp r out5 t11 = F_spread_L1 mask onp (Int.toNat (((F_membersOf onp).length : Int) - 0) + 1) 0 0 ∧ Int.toNat (((F_membersOf onp).length : Int) - t11) < r ∧ (0 ≤ t11) ∧ (t11 ≤ ((F_membersOf onp).length : Int)) ∧ E a' 25 [(0, .int .i64 mask), (5, .int .i64 out5), (9, .slice b15 ((F_membersOf onp).length) c16), (10, .int .i64 ((F_membersOf onp).length : Int)), (11, .int .i64 t11)] ∧ St w w' [.own 2 1 b15 ((F_membersOf onp).length) c16 (F_membersOf onp)]) (r := (Int.toNat (((F_membersOf onp).length : Int) - 0) + 1)) ?_ ?_
    · exact ⟨0, 0, rfl, Nat.lt_succ_self _, (by first | omega | (simp only [List.length_replicate, sI_len]; omega) | (simp only [List.length_append, List.length_cons, List.length_nil, sI_len, cond_true, cond_false]; omega) | (simp only [List.length_append, List.length_cons, List.length_nil, sI_len, cond_eq_ite, apply_ite List.length]; split <;> simp only [List.length_append, List.length_cons, List.length_nil, sI_len] <;> omega) | grind), (by first | omega | (simp only [List.length_replicate, sI_len]; omega) | (simp only [List.length_append, List.length_cons, List.length_nil, sI_len, cond_true, cond_false]; omega) | (simp only [List.length_append, List.length_cons, List.length_nil, sI_len, cond_eq_ite, apply_ite List.length]; split <;> simp only [List.length_append, List.length_cons, List.length_nil, sI_len] <;> omega) | grind), (hE22.sub (L' := [(0, .int .i64 mask), (5, .int .i64 0), (9, .slice b15 ((F_membersOf onp).length) c16), (10, .int .i64 ((F_membersOf onp).length : Int)), (11, .int .i64 0)]) ⟨rfl, rfl, rfl, rfl, rfl, trivial⟩), (St.pick (Γ' := [.own 2 1 b15 ((F_membersOf onp).length) c16 (F_membersOf onp)]) hS13 [0] (by decide) rfl)⟩
    ·
      clear hE22 hS13
      rintro r32 a24 w25 ⟨out5, t11, hT28, hr29, hi30, hi31, hE26, hS27⟩
      obtain ⟨r32, rfl⟩ : ∃ r', r32 = r' + 1 := ⟨r32 - 1, by omega⟩
      refine c_seq ?_
      refine c_reg ?_
      refine q_step (v := .bool (decide (t11 < ((F_membersOf onp).length : Int)))) hE26 (y_lss rfl rfl) rfl rfl rfl ?_; intro a33 hE34; clear hE26
      refine c_nil ?_
      have hE35 := hE34.sub (L' := [(0, .int .i64 mask), (5, .int .i64 out5), (9, .slice b15 ((F_membersOf onp).length) c16), (10, .int .i64 ((F_membersOf onp).length : Int)), (11, .int .i64 t11), (12, .bool (decide (t11 < ((F_membersOf onp).length : Int))))]) ⟨rfl, rfl, rfl, rfl, rfl, rfl, trivial⟩; clear hE34
      refine p_tn ?_
      refine c_seq ?_
      refine c_cond hE35 rfl (fun ht36 => ?_) (fun ht36 => ?_)
      ·
        have hp37 := of_decide_eq_true ht36
        have hE38 := hE35; rw [ht36] at hE38; clear hE35
        have hm1 := members_lt62 (mask := onp) h0 h1 t11 (by omega) (by omega)
        refine wp_skip ?_
        refine p_tn ?_
        refine c_cut (fun a' w' => E a' 25 [(0, .int .i64 mask), (5, .int .i64 (bif (F_has mask t11) then orI out5 (shlI 1 (gI (F_membersOf onp) t11)) else out5)), (9, .slice b15 ((F_membersOf onp).length) c16), (10, .int .i64 ((F_membersOf onp).length : Int)), (11, .int .i64 t11)] ∧ St w w' [.own 2 1 b15 ((F_membersOf onp).length) c16 (F_membersOf onp)]) ?_ ?_
        ·
          refine wp_block ?_
          refine c_seq ?_
          refine c_reg ?_
          refine q_step (v := .int .i64 t11) hE38 (y_move rfl) rfl rfl rfl ?_; intro a39 hE40; clear hE38
          refine q_step (v := .pointer (some (adr b15 (Int.toNat t11)))) hE40 (y_idx (by kernel_rfl) (fun _ => by kernel_rfl) rfl rfl (RdS.isS (m := t11) (St.rdO (i := 0) hS27 rfl) (by omega) (by omega)) (by omega) (by omega) (Nat.mul_one _).symm) rfl rfl rfl ?_; intro a41 hE42; clear hE40
          refine q_step (v := .int .i64 (gI (F_membersOf onp) t11)) hE42 (y_load (fun _ => by kernel_rfl) rfl (RdS.elt (St.rdO (i := 0) hS27 rfl) (by omega) (by omega))) rfl rfl rfl ?_; intro a43 hE44; clear hE42
          refine q_step (v := .int .i64 t11) hE44 (y_assign rfl) rfl rfl rfl ?_; intro a45 hE46; clear hE44
          refine q_step (v := .int .i64 (gI (F_membersOf onp) t11)) hE46 (y_assign rfl) rfl rfl rfl ?_; intro a47 hE48; clear hE46
          refine c_nil ?_
          have hE49 := hE48.sub (L' := [(0, .int .i64 mask), (5, .int .i64 out5), (6, .int .i64 t11), (7, .int .i64 (gI (F_membersOf onp) t11)), (9, .slice b15 ((F_membersOf onp).length) c16), (10, .int .i64 ((F_membersOf onp).length : Int)), (11, .int .i64 t11)]) ⟨rfl, rfl, rfl, rfl, rfl, rfl, rfl, trivial⟩; clear hE48
          refine p_tn ?_
          refine c_seq ?_
          refine c_reg ?_
          refine q_step (v := .int .i64 mask) hE49 (y_move rfl) rfl rfl rfl ?_; intro a50 hE51; clear hE49
          refine q_step (v := .int .i64 t11) hE51 (y_move rfl) rfl rfl rfl ?_; intro a52 hE53; clear hE51
          refine l_step hE53 rfl (l_call (f := 111) (argv := [.int .i64 mask, .int .i64 t11]) hE53 (fun _ => cf_has _ _) rfl rfl (c_has mask t11 w25 (by omega)) ?_)
          rintro _ _ ⟨rfl, rfl⟩ a56 hE57; clear hE53
          refine c_nil ?_
          have hE60 := hE57.sub (L' := [(0, .int .i64 mask), (5, .int .i64 out5), (7, .int .i64 (gI (F_membersOf onp) t11)), (9, .slice b15 ((F_membersOf onp).length) c16), (10, .int .i64 ((F_membersOf onp).length : Int)), (11, .int .i64 t11), (18, .bool (F_has mask t11))]) ⟨rfl, rfl, rfl, rfl, rfl, rfl, rfl, trivial⟩; clear hE57
          refine p_tn ?_
          refine c_cond hE60 rfl (fun ht61 => ?_) (fun ht61 => ?_)
          ·
            have hE62 := hE60; rw [ht61] at hE62; clear hE60
            refine c_reg ?_
            refine q_step (v := .int .i64 out5) hE62 (y_move rfl) rfl rfl rfl ?_; intro a63 hE64; clear hE62
            refine q_step (v := .int .i64 (gI (F_membersOf onp) t11)) hE64 (y_move rfl) rfl rfl rfl ?_; intro a65 hE66; clear hE64
            refine q_step (v := .int .i64 (shlI 1 (gI (F_membersOf onp) t11))) hE66 (y_shl rfl rfl (by omega)) rfl rfl rfl ?_; intro a67 hE68; clear hE66
            refine q_step (v := .int .i64 (orI out5 (shlI 1 (gI (F_membersOf onp) t11)))) hE68 (y_or rfl rfl) rfl rfl rfl ?_; intro a69 hE70; clear hE68
            refine q_step (v := .int .i64 (orI out5 (shlI 1 (gI (F_membersOf onp) t11)))) hE70 (y_assign rfl) rfl rfl rfl ?_; intro a71 hE72; clear hE70
            refine c_nil ?_
            have hE73 := hE72.sub (L' := [(0, .int .i64 mask), (5, .int .i64 (orI out5 (shlI 1 (gI (F_membersOf onp) t11)))), (9, .slice b15 ((F_membersOf onp).length) c16), (10, .int .i64 ((F_membersOf onp).length : Int)), (11, .int .i64 t11)]) ⟨rfl, rfl, rfl, rfl, rfl, trivial⟩; clear hE72
            refine p_bn ?_
            refine p_tn ?_
            have hE74 := hE73.sub (L' := [(0, .int .i64 mask), (5, .int .i64 (orI out5 (shlI 1 (gI (F_membersOf onp) t11)))), (9, .slice b15 ((F_membersOf onp).length) c16), (10, .int .i64 ((F_membersOf onp).length : Int)), (11, .int .i64 t11)]) ⟨rfl, rfl, rfl, rfl, rfl, trivial⟩
            have hS75 := (St.pick (Γ' := [.own 2 1 b15 ((F_membersOf onp).length) c16 (F_membersOf onp)]) hS27 [0] (by decide) rfl)
            exact ⟨(by rw [ht61]; exact hE74), hS75⟩
          ·
            have hE76 := hE60; rw [ht61] at hE76; clear hE60
            refine wp_skip ?_
            refine p_bn ?_
            refine p_tn ?_
            have hE77 := hE76.sub (L' := [(0, .int .i64 mask), (5, .int .i64 out5), (9, .slice b15 ((F_membersOf onp).length) c16), (10, .int .i64 ((F_membersOf onp).length : Int)), (11, .int .i64 t11)]) ⟨rfl, rfl, rfl, rfl, rfl, trivial⟩
            have hS78 := (St.pick (Γ' := [.own 2 1 b15 ((F_membersOf onp).length) c16 (F_membersOf onp)]) hS27 [0] (by decide) rfl)
            exact ⟨(by rw [ht61]; exact hE77), hS78⟩
        ·
          rintro a79 w80 ⟨hE81, hS82⟩; clear hE38 hS27
          refine c_reg ?_
          refine q_step (v := .int .i64 (t11 + 1)) hE81 (y_add rfl rfl ⟨(by omega), (by omega)⟩) rfl rfl rfl ?_; intro a83 hE84; clear hE81
          refine q_step (v := .int .i64 (t11 + 1)) hE84 (y_move rfl) rfl rfl rfl ?_; intro a85 hE86; clear hE84
          refine c_nil ?_
          have hE87 := hE86.sub (L' := [(0, .int .i64 mask), (5, .int .i64 (bif (F_has mask t11) then orI out5 (shlI 1 (gI (F_membersOf onp) t11)) else out5)), (9, .slice b15 ((F_membersOf onp).length) c16), (10, .int .i64 ((F_membersOf onp).length : Int)), (11, .int .i64 (t11 + 1))]) ⟨rfl, rfl, rfl, rfl, rfl, trivial⟩; clear hE86
          refine p_tn ⟨r32, Nat.lt_succ_self _, bif (F_has mask t11) then orI out5 (shlI 1 (gI (F_membersOf onp) t11)) else out5, t11 + 1, (hT28.symm.trans (show F_spread_L1b mask onp (F_spread_L1 mask onp r32) out5 t11 = F_spread_L1 mask onp r32 (bif (F_has mask t11) then orI out5 (shlI 1 (gI (F_membersOf onp) t11)) else out5) (t11 + 1) by unfold F_spread_L1b; rw [ht36]; first | done | rfl)).symm, (by omega), (by first | omega | (simp only [List.length_replicate, sI_len]; omega) | (simp only [List.length_append, List.length_cons, List.length_nil, sI_len, cond_true, cond_false]; omega) | (simp only [List.length_append, List.length_cons, List.length_nil, sI_len, cond_eq_ite, apply_ite List.length]; split <;> simp only [List.length_append, List.length_cons, List.length_nil, sI_len] <;> omega) | grind), (by first | omega | (simp only [List.length_replicate, sI_len]; omega) | (simp only [List.length_append, List.length_cons, List.length_nil, sI_len, cond_true, cond_false]; omega) | (simp only [List.length_append, List.length_cons, List.length_nil, sI_len, cond_eq_ite, apply_ite List.length]; split <;> simp only [List.length_append, List.length_cons, List.length_nil, sI_len] <;> omega) | grind), (hE87.sub (L' := [(0, .int .i64 mask), (5, .int .i64 (bif (F_has mask t11) then orI out5 (shlI 1 (gI (F_membersOf onp) t11)) else out5)), (9, .slice b15 ((F_membersOf onp).length) c16), (10, .int .i64 ((F_membersOf onp).length : Int)), (11, .int .i64 (t11 + 1))]) ⟨rfl, rfl, rfl, rfl, rfl, trivial⟩), (St.pick (Γ' := [.own 2 1 b15 ((F_membersOf onp).length) c16 (F_membersOf onp)]) hS82 [0] (by decide) rfl)⟩
      ·
        have hp88 := of_decide_eq_false ht36
        have hE89 := hE35; rw [ht36] at hE89; clear hE35
        refine wp_exit ?_
        refine p_te ?_
        have hX90 : F_spread_L1 mask onp (Int.toNat (((F_membersOf onp).length : Int) - 0) + 1) 0 0 = (out5, t11) := hT28.symm.trans (show F_spread_L1b mask onp (F_spread_L1 mask onp r32) out5 t11 = (out5, t11) by unfold F_spread_L1b; rw [ht36]; first | done | rfl)
        refine p_te (p_be (p_tn ?_))
        exact ⟨(by rw [hX90]; exact (show 0 ≤ t11 from (by first | omega | (simp only [List.length_replicate, sI_len]; omega) | (simp only [List.length_append, List.length_cons, List.length_nil, sI_len, cond_true, cond_false]; omega) | (simp only [List.length_append, List.length_cons, List.length_nil, sI_len, cond_eq_ite, apply_ite List.length]; split <;> simp only [List.length_append, List.length_cons, List.length_nil, sI_len] <;> omega) | grind))), (by rw [hX90]; exact (show t11 ≤ ((F_membersOf onp).length : Int) from (by first | omega | (simp only [List.length_replicate, sI_len]; omega) | (simp only [List.length_append, List.length_cons, List.length_nil, sI_len, cond_true, cond_false]; omega) | (simp only [List.length_append, List.length_cons, List.length_nil, sI_len, cond_eq_ite, apply_ite List.length]; split <;> simp only [List.length_append, List.length_cons, List.length_nil, sI_len] <;> omega) | grind))), (by rw [hX90]; exact (hE89.sub (L' := [(0, .int .i64 mask), (5, .int .i64 out5), (9, .slice b15 ((F_membersOf onp).length) c16), (10, .int .i64 ((F_membersOf onp).length : Int)), (11, .int .i64 t11)]) ⟨rfl, rfl, rfl, rfl, rfl, trivial⟩)), (St.pick (Γ' := [.own 2 1 b15 ((F_membersOf onp).length) c16 (F_membersOf onp)]) hS27 [0] (by decide) rfl)⟩
  ·
    rintro a91 w92 ⟨hi96, hi97, hE93, hS94⟩; clear hE22 hS13
    refine p_tn ?_
    refine c_seq ?_
    refine c_reg ?_
    refine q_step (v := .int .i64 ((F_spread_L1 mask onp (Int.toNat (((F_membersOf onp).length : Int) - 0) + 1) 0 0).1)) hE93 (y_move rfl) rfl rfl rfl ?_; intro a98 hE99; clear hE93
    refine q_step (v := .int .i64 ((F_spread_L1 mask onp (Int.toNat (((F_membersOf onp).length : Int) - 0) + 1) 0 0).1)) hE99 (y_assign rfl) rfl rfl rfl ?_; intro a100 hE101; clear hE99
    refine c_nil ?_
    have hE102 := hE101.sub (L' := [(4, .int .i64 ((F_spread_L1 mask onp (Int.toNat (((F_membersOf onp).length : Int) - 0) + 1) 0 0).1))]) ⟨rfl, trivial⟩; clear hE101
    refine p_tn ?_
    refine wp_ret ?_
    have hF : F_spread mask onp = (F_spread_L1 mask onp (Int.toNat (((F_membersOf onp).length : Int) - 0) + 1) 0 0).1 := by unfold F_spread; rfl
    refine c_ret1 hE102 rfl rfl ?_
    exact ⟨(by rw [hF]; first | done | rfl), hS94.ext⟩

theorem spread_fold {x u : Int} : F_spread x u = (List.range (F_membersOf u).length).foldl (fun o (j : Nat) => bif F_has x (j : Int) then orI o (shlI 1 (gI (F_membersOf u) (j : Int))) else o) 0 := by
  unfold F_spread
  rw [rangeLoop0 ((F_membersOf u).length : Int) (by omega) (fun o t => bif F_has x t then orI o (shlI 1 (gI (F_membersOf u) t)) else o) (F_spread_L1 x u) (fun _ _ _ => rfl), Int.toNat_natCast]
theorem spread_bits {x u : Int} {n : Nat} (hn : n ≤ 62) (h0 : 0 ≤ u) (hm : u ≤ fullI (n : Int)) : Mk n (F_spread x u) ∧ ∀ j, (tb (F_spread x u) j = true ↔ ∃ i, i < (F_membersOf u).length ∧ F_has x (i : Int) = true ∧ gI (F_membersOf u) (i : Int) = (j : Int)) := by
  rw [spread_fold]
  have key : ∀ i : Nat, i < (F_membersOf u).length → ∃ t : Nat, t < n ∧ gI (F_membersOf u) (i : Int) = (t : Int) ∧ shlI 1 (gI (F_membersOf u) (i : Int)) = powI (t : Int) := fun i hi => by
    have := members_lt hn h0 hm (i : Int) (by omega) (by omega)
    refine ⟨(gI (F_membersOf u) (i : Int)).toNat, by omega, by omega, ?_⟩
    rw [show (((gI (F_membersOf u) (i : Int)).toNat : Nat) : Int) = gI (F_membersOf u) (i : Int) by omega]
    exact pow_shl this.1 (by omega)
  obtain ⟨h1, h2⟩ := fold_or hn (fun j : Nat => F_has x (j : Int)) (fun j : Nat => shlI 1 (gI (F_membersOf u) (j : Int))) (List.range (F_membersOf u).length) 0 (Mk.zero n) (fun i hi _ => by
    obtain ⟨t, ht, _, e⟩ := key i (List.mem_range.1 hi)
    rw [e]; exact Mk.pow ht)
  refine ⟨h1, fun j => (h2 j).trans ⟨?_, ?_⟩⟩
  · rintro (h | ⟨i, hi, h3, h4⟩)
    · rw [tb_zero] at h; cases h
    · obtain ⟨t, ht, e1, e⟩ := key i (List.mem_range.1 hi)
      rw [e, tb_pow] at h4
      have := of_decide_eq_true h4
      subst this
      exact ⟨i, List.mem_range.1 hi, h3, e1⟩
  · rintro ⟨i, hi, h3, h4⟩
    obtain ⟨t, ht, e1, e⟩ := key i hi
    refine .inr ⟨i, List.mem_range.2 hi, h3, ?_⟩
    rw [e, tb_pow, decide_eq_true_iff]; omega
theorem spread_bd {x u n : Int} (h0 : 0 ≤ n) (h1 : n ≤ 62) (hu : 0 ≤ u) (hm : u ≤ fullI n) : 0 ≤ F_spread x u ∧ F_spread x u ≤ fullI n := by
  have e : ((n.toNat : Nat) : Int) = n := by omega
  have h := (spread_bits (x := x) (n := n.toNat) (by omega) hu (by rw [e]; exact hm)).1
  exact ⟨h.1, by have := h.2; rwa [e] at this⟩

def F_s_ModalQuotient_L2b (u : Int) (mask8 : Int) (rec : Int → Int → Int × Int) (set9L2 : Int) (i10L2 : Int) : Int × Int :=
  bif (decide (i10L2 < ((F_l01List u).length : Int))) then (rec (bif (F_l01Bit mask8 i10L2) then orI set9L2 (powI (gI (F_l01List u) i10L2)) else set9L2) (i10L2 + 1)) else (set9L2, i10L2)
def F_s_ModalQuotient_L2 (u : Int) (mask8 : Int) : Nat → Int → Int → Int × Int
  | 0, set9L2, i10L2 => (set9L2, i10L2)
  | r + 1, set9L2, i10L2 => F_s_ModalQuotient_L2b u mask8 (F_s_ModalQuotient_L2 u mask8 r) set9L2 i10L2
def F_s_ModalQuotient_L1b (ap0 : Int) (ap1 : List Int) (u : Int) (rec : Int → (List Int) → Int × (List Int)) (mask8 : Int) (q6_1 : List Int) : Int × (List Int) :=
  bif (decide (mask8 ≤ (fullI ((F_l01List u).length : Int)))) then (rec (mask8 + 1) (q6_1 ++ ([F_l05Squeeze (F_l01List u) (andI (gI ap1 ((F_s_ModalQuotient_L2 u mask8 (Int.toNat (((F_l01List u).length : Int) - 0) + 1) (anI (fullI ap0) u) 0).1)) u)]))) else (mask8, q6_1)
def F_s_ModalQuotient_L1 (ap0 : Int) (ap1 : List Int) (u : Int) : Nat → Int → (List Int) → Int × (List Int)
  | 0, mask8, q6_1 => (mask8, q6_1)
  | r + 1, mask8, q6_1 => F_s_ModalQuotient_L1b ap0 ap1 u (F_s_ModalQuotient_L1 ap0 ap1 u r) mask8 q6_1
def F_s_ModalQuotient (ap0 : Int) (ap1 : List Int) (u : Int) : (Int × List Int) × (Int) :=
  bif (!(F_l15Is ap0 ap1)) then ((0, []), 1) else (bif (!(F_l01In u 0 (fullI ap0))) then ((0, []), 2) else (bif (!decide ((anI u (gI ap1 u)) = 0)) then ((0, []), 5) else ((((F_l01List u).length : Int), (F_s_ModalQuotient_L1 ap0 ap1 u (Int.toNat ((fullI ((F_l01List u).length : Int)) + 1 - 0) + 1) 0 ([])).2), 0)))
theorem cf_s_ModalQuotient (args : Array Value) (w : World) : (callFunc 37 args).run Try.prog w = .ok (.enter 37 args) w := by kernel_rfl
set_option maxRecDepth 100000 in
theorem c_s_ModalQuotient (ap0 : Int) (ap1A : Option Addr) (ap1N ap1C : Nat) (ap1 : List Int) (u : Int) (w : World) (ap1R : RdS w 1 ap1A ap1N ap1C ap1) :
    Calls Try.prog 37 #[.agg #[.int .i64 ap0, .slice ap1A ap1N ap1C], .int .i64 u] w (Ret fun v w' => ∃ b1 : Option Addr, ∃ c1 : Nat, v = .tuple #[.agg #[.int .i64 (((F_s_ModalQuotient ap0 ap1 u).1).1), .slice b1 (((F_s_ModalQuotient ap0 ap1 u).1).2).length c1], .int .i64 ((F_s_ModalQuotient ap0 ap1 u).2)] ∧ OwnS w' w.heap.size 2 1 b1 (((F_s_ModalQuotient ap0 ap1 u).1).2).length c1 (((F_s_ModalQuotient ap0 ap1 u).1).2) ∧ Ext w w') := by
  obtain rfl : ap1N = ap1.length := ap1R.len1.symm
  have ap1Le := ap1R.le
  have hS := St.nil w
  have hS1 := St.rd0 hS rfl ap1R; clear hS
  refine enter (args := [.agg #[.int .i64 ap0, .slice ap1A ap1.length ap1C], .int .i64 u]) Try.func37 rfl rfl ?_
  rw [Try.ntmps37]; intro a hE
  have hE := hE.sub (L' := [(0, .agg #[.int .i64 ap0, .slice ap1A ap1.length ap1C]), (1, .int .i64 u)]) ⟨rfl, rfl, trivial⟩
  refine c_seq ?_
  refine c_reg ?_
  refine l_step hE rfl (l_box (v := .agg #[.int .i64 ap0, .slice ap1A ap1.length ap1C]) (cs := #[.int .i64 ap0, .slice ap1A ap1.length ap1C]) hS1 hE rfl rfl rfl ?_)
  intro b2 w3 hS6 he7 a4 hE5; clear hS1 hE
  refine l_step hE5 rfl (l_alloc (z := .agg #[.int .i64 0, .slice none 0 0]) (cs := #[.int .i64 0, .slice none 0 0]) hS6 hE5 (fun _ => by kernel_rfl) rfl rfl ?_)
  intro b8 w9 hS12 he13 a10 hE11; clear hS6 hE5
  refine q_step (v := .int .i64 0) hE11 (y_assign rfl) rfl rfl rfl ?_; intro a14 hE15; clear hE11
  refine c_nil ?_
  have hE16 := hE15.sub (L' := [(1, .int .i64 u), (2, .pointer (some ⟨b2, 0, none⟩)), (4, .pointer (some ⟨b8, 0, none⟩))]) ⟨rfl, rfl, rfl, trivial⟩; clear hE15
  refine p_tn ?_
  refine c_seq ?_
  refine c_seq ?_
  refine c_reg ?_
  refine q_step (v := .agg #[.int .i64 ap0, .slice ap1A ap1.length ap1C]) hE16 (y_loadS Try.underlying54 rfl (by kernel_rfl) rfl (St.row (i := 1) hS12 rfl)) rfl rfl rfl ?_; intro a17 hE18; clear hE16
  refine l_step hE18 rfl (l_call (f := 76) (argv := [.agg #[.int .i64 ap0, .slice ap1A ap1.length ap1C]]) hE18 (fun _ => cf_l15Is _ _) rfl rfl (c_l15Is ap0 ap1A ap1.length ap1C ap1 w9 (St.rdR (i := 2) hS12 rfl)) ?_)
  rintro _ w20 ⟨rfl, he24⟩ a21 hE22; clear hE18
  have hS23 := St.go hS12 he24; clear hS12
  refine q_step (v := .bool (!(F_l15Is ap0 ap1))) hE22 (y_not rfl) rfl rfl rfl ?_; intro a25 hE26; clear hE22
  refine c_nil ?_
  have hE27 := hE26.sub (L' := [(1, .int .i64 u), (2, .pointer (some ⟨b2, 0, none⟩)), (4, .pointer (some ⟨b8, 0, none⟩)), (13, .bool (!(F_l15Is ap0 ap1)))]) ⟨rfl, rfl, rfl, rfl, trivial⟩; clear hE26
  refine p_tn ?_
  refine c_cond hE27 rfl (fun ht28 => ?_) (fun ht28 => ?_)
  ·
    have ht29 := bn_t ht28
    have hE30 := hE27; rw [ht28] at hE30; clear hE27
    refine c_seq ?_
    refine c_reg ?_
    refine q_step (v := .agg #[.int .i64 0, .slice none 0 0]) hE30 (y_build (vs := #[]) (fun a n hE => by simp) (fun _ => by kernel_rfl)) rfl rfl rfl ?_; intro a31 hE32; clear hE30
    refine l_step hE32 rfl (l_storeS (k := 0) (cs' := #[.int .i64 0, .slice none 0 0]) hS23 hE32 (by kernel_rfl) rfl rfl (by kernel_rfl) rfl rfl ?_)
    intro w34 hS37 a35 hE36; clear hS23 hE32
    refine q_step (v := .int .i64 1) hE36 (y_assign rfl) rfl rfl rfl ?_; intro a39 hE40; clear hE36
    refine c_nil ?_
    have hE41 := hE40.sub (L' := [(4, .pointer (some ⟨b8, 0, none⟩)), (5, .int .i64 1)]) ⟨rfl, rfl, trivial⟩; clear hE40
    refine p_tn ?_
    refine wp_ret ?_
    refine p_tr ?_
    have hF : F_s_ModalQuotient ap0 ap1 u = ((0, []), 1) := by unfold F_s_ModalQuotient; rw [ht28]; first | done | rfl
    refine c_retC2 hE41 rfl rfl rfl Try.underlying54 rfl (by kernel_rfl) (St.row (i := 0) hS37 rfl _ (Ext.refl _)) ?_
    exact ⟨none, 0, (by rw [hF]; first | done | rfl), (by rw [hF]; exact OwnS.nilS _ _ _ _), hS37.ext⟩
  ·
    have ht42 := bn_f ht28
    have hp43 := l15Is_t ht42
    have hE44 := hE27; rw [ht28] at hE44; clear hE27
    refine wp_skip ?_
    refine p_tn ?_
    refine c_seq ?_
    refine c_seq ?_
    refine c_reg ?_
    refine q_step (v := .int .i64 u) hE44 (y_move rfl) rfl rfl rfl ?_; intro a45 hE46; clear hE44
    refine q_step (v := .pointer (some ⟨b2, 0, none⟩)) hE46 (y_field rfl (fun _ => by kernel_rfl)) rfl rfl rfl ?_; intro a47 hE48; clear hE46
    refine q_step (v := .int .i64 ap0) hE48 (y_load (fun _ => by kernel_rfl) rfl (St.cell (i := 1) hS23 rfl rfl)) rfl rfl rfl ?_; intro a49 hE50; clear hE48
    refine l_step hE50 rfl (l_call (f := 78) (argv := [.int .i64 ap0]) hE50 (fun _ => cf_l01Full _ _) rfl rfl (d_l01Full ap0 w20 (by omega) (by omega)) ?_)
    rintro _ _ ⟨rfl, rfl⟩ a53 hE54; clear hE50
    refine l_step hE54 rfl (l_call (f := 77) (argv := [.int .i64 u, .int .i64 0, .int .i64 (fullI ap0)]) hE54 (fun _ => cf_l01In _ _) rfl rfl (c_l01In u 0 (fullI ap0) w20) ?_)
    rintro _ _ ⟨rfl, rfl⟩ a59 hE60; clear hE54
    refine q_step (v := .bool (!(F_l01In u 0 (fullI ap0)))) hE60 (y_not rfl) rfl rfl rfl ?_; intro a63 hE64; clear hE60
    refine c_nil ?_
    have hE65 := hE64.sub (L' := [(1, .int .i64 u), (2, .pointer (some ⟨b2, 0, none⟩)), (4, .pointer (some ⟨b8, 0, none⟩)), (20, .bool (!(F_l01In u 0 (fullI ap0))))]) ⟨rfl, rfl, rfl, rfl, trivial⟩; clear hE64
    refine p_tn ?_
    refine c_cond hE65 rfl (fun ht66 => ?_) (fun ht66 => ?_)
    ·
      have ht67 := bn_t ht66
      have hE68 := hE65; rw [ht66] at hE68; clear hE65
      refine c_seq ?_
      refine c_reg ?_
      refine q_step (v := .agg #[.int .i64 0, .slice none 0 0]) hE68 (y_build (vs := #[]) (fun a n hE => by simp) (fun _ => by kernel_rfl)) rfl rfl rfl ?_; intro a69 hE70; clear hE68
      refine l_step hE70 rfl (l_storeS (k := 0) (cs' := #[.int .i64 0, .slice none 0 0]) hS23 hE70 (by kernel_rfl) rfl rfl (by kernel_rfl) rfl rfl ?_)
      intro w72 hS75 a73 hE74; clear hS23 hE70
      refine q_step (v := .int .i64 2) hE74 (y_assign rfl) rfl rfl rfl ?_; intro a77 hE78; clear hE74
      refine c_nil ?_
      have hE79 := hE78.sub (L' := [(4, .pointer (some ⟨b8, 0, none⟩)), (5, .int .i64 2)]) ⟨rfl, rfl, trivial⟩; clear hE78
      refine p_tn ?_
      refine wp_ret ?_
      refine p_tr ?_
      have hF : F_s_ModalQuotient ap0 ap1 u = ((0, []), 2) := by unfold F_s_ModalQuotient; rw [ht66, ht28]; first | done | rfl
      refine c_retC2 hE79 rfl rfl rfl Try.underlying54 rfl (by kernel_rfl) (St.row (i := 0) hS75 rfl _ (Ext.refl _)) ?_
      exact ⟨none, 0, (by rw [hF]; first | done | rfl), (by rw [hF]; exact OwnS.nilS _ _ _ _), hS75.ext⟩
    ·
      have ht80 := bn_f ht66
      have hp81 := F_l01In_t ht80
      have hE82 := hE65; rw [ht66] at hE82; clear hE65
      refine wp_skip ?_
      refine p_tn ?_
      refine c_seq ?_
      refine c_seq ?_
      refine c_reg ?_
      refine q_step (v := .int .i64 u) hE82 (y_move rfl) rfl rfl rfl ?_; intro a83 hE84; clear hE82
      refine q_step (v := .pointer (some ⟨b2, 1, none⟩)) hE84 (y_field rfl (fun _ => by kernel_rfl)) rfl rfl rfl ?_; intro a85 hE86; clear hE84
      refine q_step (v := .slice ap1A ap1.length ap1C) hE86 (y_load (fun _ => by kernel_rfl) rfl (St.cell (i := 1) hS23 rfl rfl)) rfl rfl rfl ?_; intro a87 hE88; clear hE86
      refine q_step (v := .int .i64 u) hE88 (y_move rfl) rfl rfl rfl ?_; intro a89 hE90; clear hE88
      refine q_step (v := .pointer (some (adr ap1A (Int.toNat u)))) hE90 (y_idx (by kernel_rfl) (fun _ => by kernel_rfl) rfl rfl (RdS.isS (m := u) (St.rdR (i := 2) hS23 rfl) (by omega) (by omega)) (by omega) (by omega) (Nat.mul_one _).symm) rfl rfl rfl ?_; intro a91 hE92; clear hE90
      refine q_step (v := .int .i64 (gI ap1 u)) hE92 (y_load (fun _ => by kernel_rfl) rfl (RdS.elt (St.rdR (i := 2) hS23 rfl) (by omega) (by omega))) rfl rfl rfl ?_; intro a93 hE94; clear hE92
      refine q_step (v := .int .i64 (anI u (gI ap1 u))) hE94 (y_andNot rfl rfl) rfl rfl rfl ?_; intro a95 hE96; clear hE94
      refine q_step (v := .bool (!decide ((anI u (gI ap1 u)) = 0))) hE96 (y_neq rfl rfl) rfl rfl rfl ?_; intro a97 hE98; clear hE96
      refine c_nil ?_
      have hE99 := hE98.sub (L' := [(1, .int .i64 u), (2, .pointer (some ⟨b2, 0, none⟩)), (4, .pointer (some ⟨b8, 0, none⟩)), (29, .bool (!decide ((anI u (gI ap1 u)) = 0)))]) ⟨rfl, rfl, rfl, rfl, trivial⟩; clear hE98
      refine p_tn ?_
      refine c_cond hE99 rfl (fun ht100 => ?_) (fun ht100 => ?_)
      ·
        have ht101 := bn_t ht100
        have hp102 := of_decide_eq_false ht101
        have hE103 := hE99; rw [ht100] at hE103; clear hE99
        refine c_seq ?_
        refine c_reg ?_
        refine q_step (v := .agg #[.int .i64 0, .slice none 0 0]) hE103 (y_build (vs := #[]) (fun a n hE => by simp) (fun _ => by kernel_rfl)) rfl rfl rfl ?_; intro a104 hE105; clear hE103
        refine l_step hE105 rfl (l_storeS (k := 0) (cs' := #[.int .i64 0, .slice none 0 0]) hS23 hE105 (by kernel_rfl) rfl rfl (by kernel_rfl) rfl rfl ?_)
        intro w107 hS110 a108 hE109; clear hS23 hE105
        refine q_step (v := .int .i64 5) hE109 (y_assign rfl) rfl rfl rfl ?_; intro a112 hE113; clear hE109
        refine c_nil ?_
        have hE114 := hE113.sub (L' := [(4, .pointer (some ⟨b8, 0, none⟩)), (5, .int .i64 5)]) ⟨rfl, rfl, trivial⟩; clear hE113
        refine p_tn ?_
        refine wp_ret ?_
        refine p_tr ?_
        have hF : F_s_ModalQuotient ap0 ap1 u = ((0, []), 5) := by unfold F_s_ModalQuotient; rw [ht100, ht66, ht28]; first | done | rfl
        refine c_retC2 hE114 rfl rfl rfl Try.underlying54 rfl (by kernel_rfl) (St.row (i := 0) hS110 rfl _ (Ext.refl _)) ?_
        exact ⟨none, 0, (by rw [hF]; first | done | rfl), (by rw [hF]; exact OwnS.nilS _ _ _ _), hS110.ext⟩
      ·
        have ht115 := bn_f ht100
        have hp116 := of_decide_eq_true ht115
        have hE117 := hE99; rw [ht100] at hE117; clear hE99
        refine wp_skip ?_
        refine p_tn ?_
        refine c_seq ?_
        refine c_reg ?_
        refine q_step (v := .int .i64 u) hE117 (y_move rfl) rfl rfl rfl ?_; intro a118 hE119; clear hE117
        refine l_step hE119 rfl (l_call (f := 71) (argv := [.int .i64 u]) hE119 (fun _ => cf_l01List _ _) rfl rfl (c_l01List u w20 (by omega) (by omega)) ?_)
        rintro _ w121 ⟨b126, c127, rfl, ho128, he125⟩ a122 hE123; clear hE119
        obtain ⟨hL0, hL⟩ := list_lt (f0 := ap0) (mask := u) (by omega) (by omega)
        have hfl := fullI5 (n := ((F_l01List u).length : Int)) (by omega) (by omega)
        have hS124 := St.own hS23 he125 ho128; clear hS23
        refine q_step (v := .slice b126 ((F_l01List u).length) c127) hE123 (y_assign rfl) rfl rfl rfl ?_; intro a129 hE130; clear hE123
        refine c_nil ?_
        have hE131 := hE130.sub (L' := [(1, .int .i64 u), (2, .pointer (some ⟨b2, 0, none⟩)), (4, .pointer (some ⟨b8, 0, none⟩)), (6, .slice b126 ((F_l01List u).length) c127)]) ⟨rfl, rfl, rfl, rfl, trivial⟩; clear hE130
        refine p_tn ?_
        refine c_seq ?_
        refine c_reg ?_
        refine q_step (v := .slice b126 ((F_l01List u).length) c127) hE131 (y_move rfl) rfl rfl rfl ?_; intro a132 hE133; clear hE131
        refine q_step (v := .int .i64 ((F_l01List u).length : Int)) hE133 (y_len (e := 2) (by kernel_rfl) rfl) rfl rfl rfl ?_; intro a134 hE135; clear hE133
        refine l_step hE135 rfl (l_lit (e := 2) (s := 1) (xs := []) (vs := []) hS124 hE135 rfl (fun _ => by kernel_rfl) rfl rfl rfl ?_)
        intro b136 w137 hS140 he141 a138 hE139; clear hS124 hE135
        refine q_step (v := .agg #[.int .i64 ((F_l01List u).length : Int), .slice (some ⟨b136, 0, none⟩) 0 0]) hE139 (y_build (vs := #[(0, .int .i64 ((F_l01List u).length : Int)), (1, .slice (some ⟨b136, 0, none⟩) 0 0)]) (fun a n hE => by simp only [hE.eval (x := .tmp 34) (v := .int .i64 ((F_l01List u).length : Int)) rfl, hE.eval (x := .tmp 35) (v := .slice (some ⟨b136, 0, none⟩) 0 0) rfl, List.map_toArray, List.map_cons, List.map_nil]) (fun _ => by kernel_rfl)) rfl rfl rfl ?_; intro a142 hE143; clear hE139
        refine l_step hE143 rfl (l_alloc (z := .agg #[.int .i64 0, .slice none 0 0]) (cs := #[.int .i64 0, .slice none 0 0]) hS140 hE143 (fun _ => by kernel_rfl) rfl rfl ?_)
        intro b144 w145 hS148 he149 a146 hE147; clear hS140 hE143
        refine l_step hE147 rfl (l_storeS (k := 0) (cs' := #[.int .i64 ((F_l01List u).length : Int), .slice (some ⟨b136, 0, none⟩) 0 0]) hS148 hE147 (by kernel_rfl) rfl rfl (by kernel_rfl) rfl rfl ?_)
        intro w151 hS154 a152 hE153; clear hS148 hE147
        refine c_nil ?_
        have hE156 := hE153.sub (L' := [(1, .int .i64 u), (2, .pointer (some ⟨b2, 0, none⟩)), (4, .pointer (some ⟨b8, 0, none⟩)), (6, .slice b126 ((F_l01List u).length) c127), (7, .pointer (some ⟨b144, 0, none⟩))]) ⟨rfl, rfl, rfl, rfl, rfl, trivial⟩; clear hE153
        refine p_tn ?_
        refine c_seq ?_
        refine c_seq ?_
        refine c_reg ?_
        refine q_step (v := .int .i64 0) hE156 (y_assign rfl) rfl rfl rfl ?_; intro a157 hE158; clear hE156
        refine c_nil ?_
        have hE159 := hE158.sub (L' := [(1, .int .i64 u), (2, .pointer (some ⟨b2, 0, none⟩)), (4, .pointer (some ⟨b8, 0, none⟩)), (6, .slice b126 ((F_l01List u).length) c127), (7, .pointer (some ⟨b144, 0, none⟩)), (8, .int .i64 0)]) ⟨rfl, rfl, rfl, rfl, rfl, rfl, trivial⟩; clear hE158
        refine p_tn ?_
        refine c_cut1 (fun a' w' => ∃ q6_1A_160 : Option Addr, ∃ q6_1C_160 : Nat, (0 ≤ ((F_s_ModalQuotient_L1 ap0 ap1 u (Int.toNat ((fullI ((F_l01List u).length : Int)) + 1 - 0) + 1) 0 ([])).1)) ∧ ((((F_s_ModalQuotient_L1 ap0 ap1 u (Int.toNat ((fullI ((F_l01List u).length : Int)) + 1 - 0) + 1) 0 ([])).2).length : Int) = ((F_s_ModalQuotient_L1 ap0 ap1 u (Int.toNat ((fullI ((F_l01List u).length : Int)) + 1 - 0) + 1) 0 ([])).1)) ∧ (((F_s_ModalQuotient_L1 ap0 ap1 u (Int.toNat ((fullI ((F_l01List u).length : Int)) + 1 - 0) + 1) 0 ([])).1) ≤ fullI ((F_l01List u).length : Int) + 1) ∧ ((((F_s_ModalQuotient_L1 ap0 ap1 u (Int.toNat ((fullI ((F_l01List u).length : Int)) + 1 - 0) + 1) 0 ([])).2).length : Int) ≤ ((F_s_ModalQuotient_L1 ap0 ap1 u (Int.toNat ((fullI ((F_l01List u).length : Int)) + 1 - 0) + 1) 0 ([])).1)) ∧ E a' 80 [(1, .int .i64 u), (2, .pointer (some ⟨b2, 0, none⟩)), (4, .pointer (some ⟨b8, 0, none⟩)), (6, .slice b126 ((F_l01List u).length) c127), (7, .pointer (some ⟨b144, 0, none⟩)), (8, .int .i64 ((F_s_ModalQuotient_L1 ap0 ap1 u (Int.toNat ((fullI ((F_l01List u).length : Int)) + 1 - 0) + 1) 0 ([])).1))] ∧ St w w' [.blk b144 #[.int .i64 ((F_l01List u).length : Int), .slice q6_1A_160 (((F_s_ModalQuotient_L1 ap0 ap1 u (Int.toNat ((fullI ((F_l01List u).length : Int)) + 1 - 0) + 1) 0 ([])).2).length) q6_1C_160] 54, .own 2 1 q6_1A_160 (((F_s_ModalQuotient_L1 ap0 ap1 u (Int.toNat ((fullI ((F_l01List u).length : Int)) + 1 - 0) + 1) 0 ([])).2).length) q6_1C_160 ((F_s_ModalQuotient_L1 ap0 ap1 u (Int.toNat ((fullI ((F_l01List u).length : Int)) + 1 - 0) + 1) 0 ([])).2), .own 2 1 b126 ((F_l01List u).length) c127 (F_l01List u), .blk b8 #[.int .i64 0, .slice none 0 0] 54, .blk b2 #[.int .i64 ap0, .slice ap1A ap1.length ap1C] 54, .rd 1 ap1A ap1.length ap1C ap1]) ?_ ?_
        ·
          refine wp_block ?_
          refine c_loop (fun r a' w' => ∃ mask8 : Int, ∃ q6_1 : List Int, ∃ q6_1A : Option Addr, ∃ q6_1C : Nat, F_s_ModalQuotient_L1 ap0 ap1 u r mask8 q6_1 = F_s_ModalQuotient_L1 ap0 ap1 u (Int.toNat ((fullI ((F_l01List u).length : Int)) + 1 - 0) + 1) 0 ([]) ∧ Int.toNat ((fullI ((F_l01List u).length : Int)) + 1 - mask8) < r ∧ (0 ≤ mask8) ∧ ((q6_1.length : Int) = mask8) ∧ (mask8 ≤ fullI ((F_l01List u).length : Int) + 1) ∧ ((q6_1.length : Int) ≤ mask8) ∧ E a' 80 [(1, .int .i64 u), (2, .pointer (some ⟨b2, 0, none⟩)), (4, .pointer (some ⟨b8, 0, none⟩)), (6, .slice b126 ((F_l01List u).length) c127), (7, .pointer (some ⟨b144, 0, none⟩)), (8, .int .i64 mask8)] ∧ St w w' [.blk b144 #[.int .i64 ((F_l01List u).length : Int), .slice q6_1A ((q6_1).length) q6_1C] 54, .own 2 1 q6_1A ((q6_1).length) q6_1C q6_1, .own 2 1 b126 ((F_l01List u).length) c127 (F_l01List u), .blk b8 #[.int .i64 0, .slice none 0 0] 54, .blk b2 #[.int .i64 ap0, .slice ap1A ap1.length ap1C] 54, .rd 1 ap1A ap1.length ap1C ap1]) (r := (Int.toNat ((fullI ((F_l01List u).length : Int)) + 1 - 0) + 1)) ?_ ?_
          · exact ⟨0, [], some ⟨b136, 0, none⟩, 0, rfl, Nat.lt_succ_self _, (by first | omega | (simp only [List.length_replicate, sI_len]; omega) | (simp only [List.length_append, List.length_cons, List.length_nil, sI_len, cond_true, cond_false]; omega) | (simp only [List.length_append, List.length_cons, List.length_nil, sI_len, cond_eq_ite, apply_ite List.length]; split <;> simp only [List.length_append, List.length_cons, List.length_nil, sI_len] <;> omega) | grind), (by first | omega | (simp only [List.length_replicate, sI_len]; omega) | (simp only [List.length_append, List.length_cons, List.length_nil, sI_len, cond_true, cond_false]; omega) | (simp only [List.length_append, List.length_cons, List.length_nil, sI_len, cond_eq_ite, apply_ite List.length]; split <;> simp only [List.length_append, List.length_cons, List.length_nil, sI_len] <;> omega) | grind), (by first | omega | (simp only [List.length_replicate, sI_len]; omega) | (simp only [List.length_append, List.length_cons, List.length_nil, sI_len, cond_true, cond_false]; omega) | (simp only [List.length_append, List.length_cons, List.length_nil, sI_len, cond_eq_ite, apply_ite List.length]; split <;> simp only [List.length_append, List.length_cons, List.length_nil, sI_len] <;> omega) | grind), (by first | omega | (simp only [List.length_replicate, sI_len]; omega) | (simp only [List.length_append, List.length_cons, List.length_nil, sI_len, cond_true, cond_false]; omega) | (simp only [List.length_append, List.length_cons, List.length_nil, sI_len, cond_eq_ite, apply_ite List.length]; split <;> simp only [List.length_append, List.length_cons, List.length_nil, sI_len] <;> omega) | grind), (hE159.sub (L' := [(1, .int .i64 u), (2, .pointer (some ⟨b2, 0, none⟩)), (4, .pointer (some ⟨b8, 0, none⟩)), (6, .slice b126 ((F_l01List u).length) c127), (7, .pointer (some ⟨b144, 0, none⟩)), (8, .int .i64 0)]) ⟨rfl, rfl, rfl, rfl, rfl, rfl, trivial⟩), (St.pick (Γ' := [.blk b144 #[.int .i64 ((F_l01List u).length : Int), .slice (some ⟨b136, 0, none⟩) 0 0] 54, .own 2 1 (some ⟨b136, 0, none⟩) 0 0 ([]), .own 2 1 b126 ((F_l01List u).length) c127 (F_l01List u), .blk b8 #[.int .i64 0, .slice none 0 0] 54, .blk b2 #[.int .i64 ap0, .slice ap1A ap1.length ap1C] 54, .rd 1 ap1A ap1.length ap1C ap1]) hS154 [0, 1, 2, 3, 4, 5] (by decide) rfl)⟩
          ·
            clear hE159 hS154
            rintro r171 a161 w162 ⟨mask8, q6_1, q6_1A, q6_1C, hT165, hr166, hi167, hi168, hi169, hi170, hE163, hS164⟩
            obtain ⟨r171, rfl⟩ : ∃ r', r171 = r' + 1 := ⟨r171 - 1, by omega⟩
            have hai := anI_le (m := fullI ap0) (k := u) (by omega) (by omega) (by omega) (by omega)
            refine c_seq ?_
            refine c_seq ?_
            refine c_reg ?_
            refine q_step (v := .int .i64 mask8) hE163 (y_move rfl) rfl rfl rfl ?_; intro a172 hE173; clear hE163
            refine q_step (v := .pointer (some ⟨b144, 0, none⟩)) hE173 (y_field rfl (fun _ => by kernel_rfl)) rfl rfl rfl ?_; intro a174 hE175; clear hE173
            refine q_step (v := .int .i64 ((F_l01List u).length : Int)) hE175 (y_load (fun _ => by kernel_rfl) rfl (St.cell (i := 0) hS164 rfl rfl)) rfl rfl rfl ?_; intro a176 hE177; clear hE175
            refine l_step hE177 rfl (l_call (f := 78) (argv := [.int .i64 ((F_l01List u).length : Int)]) hE177 (fun _ => cf_l01Full _ _) rfl rfl (d_l01Full ((F_l01List u).length : Int) w162 (by omega) (by omega)) ?_)
            rintro _ _ ⟨rfl, rfl⟩ a180 hE181; clear hE177
            refine q_step (v := .bool (decide (mask8 ≤ (fullI ((F_l01List u).length : Int))))) hE181 (y_leq rfl rfl) rfl rfl rfl ?_; intro a184 hE185; clear hE181
            refine c_nil ?_
            have hE186 := hE185.sub (L' := [(1, .int .i64 u), (2, .pointer (some ⟨b2, 0, none⟩)), (4, .pointer (some ⟨b8, 0, none⟩)), (6, .slice b126 ((F_l01List u).length) c127), (7, .pointer (some ⟨b144, 0, none⟩)), (8, .int .i64 mask8), (41, .bool (decide (mask8 ≤ (fullI ((F_l01List u).length : Int)))))]) ⟨rfl, rfl, rfl, rfl, rfl, rfl, rfl, trivial⟩; clear hE185
            refine p_tn ?_
            refine c_cond hE186 rfl (fun ht187 => ?_) (fun ht187 => ?_)
            ·
              have hp188 := of_decide_eq_true ht187
              have hE189 := hE186; rw [ht187] at hE189; clear hE186
              refine wp_skip ?_
              refine p_tn ?_
              refine c_seq ?_
              refine wp_block ?_
              refine c_seq ?_
              refine c_reg ?_
              refine q_step (v := .pointer (some ⟨b2, 0, none⟩)) hE189 (y_field rfl (fun _ => by kernel_rfl)) rfl rfl rfl ?_; intro a190 hE191; clear hE189
              refine q_step (v := .int .i64 ap0) hE191 (y_load (fun _ => by kernel_rfl) rfl (St.cell (i := 4) hS164 rfl rfl)) rfl rfl rfl ?_; intro a192 hE193; clear hE191
              refine l_step hE193 rfl (l_call (f := 78) (argv := [.int .i64 ap0]) hE193 (fun _ => cf_l01Full _ _) rfl rfl (d_l01Full ap0 w162 (by omega) (by omega)) ?_)
              rintro _ _ ⟨rfl, rfl⟩ a196 hE197; clear hE193
              refine q_step (v := .int .i64 u) hE197 (y_move rfl) rfl rfl rfl ?_; intro a200 hE201; clear hE197
              refine q_step (v := .int .i64 (anI (fullI ap0) u)) hE201 (y_andNot rfl rfl) rfl rfl rfl ?_; intro a202 hE203; clear hE201
              refine q_step (v := .int .i64 (anI (fullI ap0) u)) hE203 (y_assign rfl) rfl rfl rfl ?_; intro a204 hE205; clear hE203
              refine c_nil ?_
              have hE206 := hE205.sub (L' := [(1, .int .i64 u), (2, .pointer (some ⟨b2, 0, none⟩)), (4, .pointer (some ⟨b8, 0, none⟩)), (6, .slice b126 ((F_l01List u).length) c127), (7, .pointer (some ⟨b144, 0, none⟩)), (8, .int .i64 mask8), (9, .int .i64 (anI (fullI ap0) u))]) ⟨rfl, rfl, rfl, rfl, rfl, rfl, rfl, trivial⟩; clear hE205
              refine p_tn ?_
              refine c_seq ?_
              refine c_seq ?_
              refine c_reg ?_
              refine q_step (v := .int .i64 0) hE206 (y_assign rfl) rfl rfl rfl ?_; intro a207 hE208; clear hE206
              refine c_nil ?_
              have hE209 := hE208.sub (L' := [(1, .int .i64 u), (2, .pointer (some ⟨b2, 0, none⟩)), (4, .pointer (some ⟨b8, 0, none⟩)), (6, .slice b126 ((F_l01List u).length) c127), (7, .pointer (some ⟨b144, 0, none⟩)), (8, .int .i64 mask8), (9, .int .i64 (anI (fullI ap0) u)), (10, .int .i64 0)]) ⟨rfl, rfl, rfl, rfl, rfl, rfl, rfl, rfl, trivial⟩; clear hE208
              refine p_tn ?_
              refine c_cut1 (fun a' w' => (0 ≤ ((F_s_ModalQuotient_L2 u mask8 (Int.toNat (((F_l01List u).length : Int) - 0) + 1) (anI (fullI ap0) u) 0).2)) ∧ (0 ≤ ((F_s_ModalQuotient_L2 u mask8 (Int.toNat (((F_l01List u).length : Int) - 0) + 1) (anI (fullI ap0) u) 0).1) ∧ ((F_s_ModalQuotient_L2 u mask8 (Int.toNat (((F_l01List u).length : Int) - 0) + 1) (anI (fullI ap0) u) 0).1) ≤ fullI ap0) ∧ (((F_s_ModalQuotient_L2 u mask8 (Int.toNat (((F_l01List u).length : Int) - 0) + 1) (anI (fullI ap0) u) 0).2) ≤ ((F_l01List u).length : Int)) ∧ E a' 80 [(1, .int .i64 u), (2, .pointer (some ⟨b2, 0, none⟩)), (4, .pointer (some ⟨b8, 0, none⟩)), (6, .slice b126 ((F_l01List u).length) c127), (7, .pointer (some ⟨b144, 0, none⟩)), (8, .int .i64 mask8), (9, .int .i64 ((F_s_ModalQuotient_L2 u mask8 (Int.toNat (((F_l01List u).length : Int) - 0) + 1) (anI (fullI ap0) u) 0).1)), (10, .int .i64 ((F_s_ModalQuotient_L2 u mask8 (Int.toNat (((F_l01List u).length : Int) - 0) + 1) (anI (fullI ap0) u) 0).2))] ∧ St w w' [.blk b144 #[.int .i64 ((F_l01List u).length : Int), .slice q6_1A ((q6_1).length) q6_1C] 54, .own 2 1 q6_1A ((q6_1).length) q6_1C q6_1, .own 2 1 b126 ((F_l01List u).length) c127 (F_l01List u), .blk b8 #[.int .i64 0, .slice none 0 0] 54, .blk b2 #[.int .i64 ap0, .slice ap1A ap1.length ap1C] 54, .rd 1 ap1A ap1.length ap1C ap1]) ?_ ?_
              ·
                refine wp_block ?_
                refine c_loop (fun r a' w' => ∃ set9L2 : Int, ∃ i10L2 : Int, F_s_ModalQuotient_L2 u mask8 r set9L2 i10L2 = F_s_ModalQuotient_L2 u mask8 (Int.toNat (((F_l01List u).length : Int) - 0) + 1) (anI (fullI ap0) u) 0 ∧ Int.toNat (((F_l01List u).length : Int) - i10L2) < r ∧ (0 ≤ i10L2) ∧ (0 ≤ set9L2 ∧ set9L2 ≤ fullI ap0) ∧ (i10L2 ≤ ((F_l01List u).length : Int)) ∧ E a' 80 [(1, .int .i64 u), (2, .pointer (some ⟨b2, 0, none⟩)), (4, .pointer (some ⟨b8, 0, none⟩)), (6, .slice b126 ((F_l01List u).length) c127), (7, .pointer (some ⟨b144, 0, none⟩)), (8, .int .i64 mask8), (9, .int .i64 set9L2), (10, .int .i64 i10L2)] ∧ St w w' [.blk b144 #[.int .i64 ((F_l01List u).length : Int), .slice q6_1A ((q6_1).length) q6_1C] 54, .own 2 1 q6_1A ((q6_1).length) q6_1C q6_1, .own 2 1 b126 ((F_l01List u).length) c127 (F_l01List u), .blk b8 #[.int .i64 0, .slice none 0 0] 54, .blk b2 #[.int .i64 ap0, .slice ap1A ap1.length ap1C] 54, .rd 1 ap1A ap1.length ap1C ap1]) (r := (Int.toNat (((F_l01List u).length : Int) - 0) + 1)) ?_ ?_
                · exact ⟨anI (fullI ap0) u, 0, rfl, Nat.lt_succ_self _, (by first | omega | (simp only [List.length_replicate, sI_len]; omega) | (simp only [List.length_append, List.length_cons, List.length_nil, sI_len, cond_true, cond_false]; omega) | (simp only [List.length_append, List.length_cons, List.length_nil, sI_len, cond_eq_ite, apply_ite List.length]; split <;> simp only [List.length_append, List.length_cons, List.length_nil, sI_len] <;> omega) | grind), (by first | omega | (simp only [List.length_replicate, sI_len]; omega) | (simp only [List.length_append, List.length_cons, List.length_nil, sI_len, cond_true, cond_false]; omega) | (simp only [List.length_append, List.length_cons, List.length_nil, sI_len, cond_eq_ite, apply_ite List.length]; split <;> simp only [List.length_append, List.length_cons, List.length_nil, sI_len] <;> omega) | grind), (by first | omega | (simp only [List.length_replicate, sI_len]; omega) | (simp only [List.length_append, List.length_cons, List.length_nil, sI_len, cond_true, cond_false]; omega) | (simp only [List.length_append, List.length_cons, List.length_nil, sI_len, cond_eq_ite, apply_ite List.length]; split <;> simp only [List.length_append, List.length_cons, List.length_nil, sI_len] <;> omega) | grind), (hE209.sub (L' := [(1, .int .i64 u), (2, .pointer (some ⟨b2, 0, none⟩)), (4, .pointer (some ⟨b8, 0, none⟩)), (6, .slice b126 ((F_l01List u).length) c127), (7, .pointer (some ⟨b144, 0, none⟩)), (8, .int .i64 mask8), (9, .int .i64 (anI (fullI ap0) u)), (10, .int .i64 0)]) ⟨rfl, rfl, rfl, rfl, rfl, rfl, rfl, rfl, trivial⟩), (St.pick (Γ' := [.blk b144 #[.int .i64 ((F_l01List u).length : Int), .slice q6_1A ((q6_1).length) q6_1C] 54, .own 2 1 q6_1A ((q6_1).length) q6_1C q6_1, .own 2 1 b126 ((F_l01List u).length) c127 (F_l01List u), .blk b8 #[.int .i64 0, .slice none 0 0] 54, .blk b2 #[.int .i64 ap0, .slice ap1A ap1.length ap1C] 54, .rd 1 ap1A ap1.length ap1C ap1]) hS164 [0, 1, 2, 3, 4, 5] (by decide) rfl)⟩
                ·
                  clear hE209 hS164
                  rintro r220 a211 w212 ⟨set9L2, i10L2, hT215, hr216, hi217, hi218, hi219, hE213, hS214⟩
                  obtain ⟨r220, rfl⟩ : ∃ r', r220 = r' + 1 := ⟨r220 - 1, by omega⟩
                  refine c_seq ?_
                  refine c_seq ?_
                  refine c_reg ?_
                  refine q_step (v := .int .i64 i10L2) hE213 (y_move rfl) rfl rfl rfl ?_; intro a221 hE222; clear hE213
                  refine q_step (v := .slice b126 ((F_l01List u).length) c127) hE222 (y_move rfl) rfl rfl rfl ?_; intro a223 hE224; clear hE222
                  refine q_step (v := .int .i64 ((F_l01List u).length : Int)) hE224 (y_len (e := 2) (by kernel_rfl) rfl) rfl rfl rfl ?_; intro a225 hE226; clear hE224
                  refine q_step (v := .bool (decide (i10L2 < ((F_l01List u).length : Int)))) hE226 (y_lss rfl rfl) rfl rfl rfl ?_; intro a227 hE228; clear hE226
                  refine c_nil ?_
                  have hE229 := hE228.sub (L' := [(1, .int .i64 u), (2, .pointer (some ⟨b2, 0, none⟩)), (4, .pointer (some ⟨b8, 0, none⟩)), (6, .slice b126 ((F_l01List u).length) c127), (7, .pointer (some ⟨b144, 0, none⟩)), (8, .int .i64 mask8), (9, .int .i64 set9L2), (10, .int .i64 i10L2), (52, .bool (decide (i10L2 < ((F_l01List u).length : Int))))]) ⟨rfl, rfl, rfl, rfl, rfl, rfl, rfl, rfl, rfl, trivial⟩; clear hE228
                  refine p_tn ?_
                  refine c_cond hE229 rfl (fun ht230 => ?_) (fun ht230 => ?_)
                  ·
                    have hp231 := of_decide_eq_true ht230
                    have hE232 := hE229; rw [ht230] at hE232; clear hE229
                    have hx1 := hL i10L2 (by omega) (by omega)
                    have hp1 := pow_full (n := ap0) (v := gI (F_l01List u) i10L2) (by omega) (by omega) (by omega)
                    have hor := or_full (n := ap0) (a := set9L2) (b := powI (gI (F_l01List u) i10L2)) (by omega) (by omega) (by omega) (by omega) (by omega) (by omega)
                    refine wp_skip ?_
                    refine p_tn ?_
                    refine c_cut (fun a' w' => E a' 80 [(1, .int .i64 u), (2, .pointer (some ⟨b2, 0, none⟩)), (4, .pointer (some ⟨b8, 0, none⟩)), (6, .slice b126 ((F_l01List u).length) c127), (7, .pointer (some ⟨b144, 0, none⟩)), (8, .int .i64 mask8), (9, .int .i64 (bif (F_l01Bit mask8 i10L2) then orI set9L2 (powI (gI (F_l01List u) i10L2)) else set9L2)), (10, .int .i64 i10L2)] ∧ St w w' [.own 2 1 q6_1A ((q6_1).length) q6_1C q6_1, .blk b144 #[.int .i64 ((F_l01List u).length : Int), .slice q6_1A ((q6_1).length) q6_1C] 54, .own 2 1 b126 ((F_l01List u).length) c127 (F_l01List u), .blk b8 #[.int .i64 0, .slice none 0 0] 54, .rd 1 ap1A ap1.length ap1C ap1, .blk b2 #[.int .i64 ap0, .slice ap1A ap1.length ap1C] 54]) ?_ ?_
                    ·
                      refine wp_block ?_
                      refine c_seq ?_
                      refine c_reg ?_
                      refine q_step (v := .int .i64 mask8) hE232 (y_move rfl) rfl rfl rfl ?_; intro a233 hE234; clear hE232
                      refine q_step (v := .int .i64 i10L2) hE234 (y_move rfl) rfl rfl rfl ?_; intro a235 hE236; clear hE234
                      refine l_step hE236 rfl (l_call (f := 79) (argv := [.int .i64 mask8, .int .i64 i10L2]) hE236 (fun _ => cf_l01Bit _ _) rfl rfl (c_l01Bit mask8 i10L2 w212 (by omega) (by omega)) ?_)
                      rintro _ _ ⟨rfl, rfl⟩ a239 hE240; clear hE236
                      refine c_nil ?_
                      have hE243 := hE240.sub (L' := [(1, .int .i64 u), (2, .pointer (some ⟨b2, 0, none⟩)), (4, .pointer (some ⟨b8, 0, none⟩)), (6, .slice b126 ((F_l01List u).length) c127), (7, .pointer (some ⟨b144, 0, none⟩)), (8, .int .i64 mask8), (9, .int .i64 set9L2), (10, .int .i64 i10L2), (57, .bool (F_l01Bit mask8 i10L2))]) ⟨rfl, rfl, rfl, rfl, rfl, rfl, rfl, rfl, rfl, trivial⟩; clear hE240
                      refine p_tn ?_
                      refine c_cond hE243 rfl (fun ht244 => ?_) (fun ht244 => ?_)
                      ·
                        have hE245 := hE243; rw [ht244] at hE245; clear hE243
                        refine c_reg ?_
                        refine q_step (v := .int .i64 set9L2) hE245 (y_move rfl) rfl rfl rfl ?_; intro a246 hE247; clear hE245
                        refine q_step (v := .slice b126 ((F_l01List u).length) c127) hE247 (y_move rfl) rfl rfl rfl ?_; intro a248 hE249; clear hE247
                        refine q_step (v := .int .i64 i10L2) hE249 (y_move rfl) rfl rfl rfl ?_; intro a250 hE251; clear hE249
                        refine q_step (v := .pointer (some (adr b126 (Int.toNat i10L2)))) hE251 (y_idx (by kernel_rfl) (fun _ => by kernel_rfl) rfl rfl (RdS.isS (m := i10L2) (St.rdO (i := 2) hS214 rfl) (by omega) (by omega)) (by omega) (by omega) (Nat.mul_one _).symm) rfl rfl rfl ?_; intro a252 hE253; clear hE251
                        refine q_step (v := .int .i64 (gI (F_l01List u) i10L2)) hE253 (y_load (fun _ => by kernel_rfl) rfl (RdS.elt (St.rdO (i := 2) hS214 rfl) (by omega) (by omega))) rfl rfl rfl ?_; intro a254 hE255; clear hE253
                        refine l_step hE255 rfl (l_call (f := 80) (argv := [.int .i64 (gI (F_l01List u) i10L2)]) hE255 (fun _ => cf_l01One _ _) rfl rfl (d_l01One (gI (F_l01List u) i10L2) w212 (by omega) (by omega)) ?_)
                        rintro _ _ ⟨rfl, rfl⟩ a258 hE259; clear hE255
                        refine q_step (v := .int .i64 (orI set9L2 (powI (gI (F_l01List u) i10L2)))) hE259 (y_or rfl rfl) rfl rfl rfl ?_; intro a262 hE263; clear hE259
                        refine q_step (v := .int .i64 (orI set9L2 (powI (gI (F_l01List u) i10L2)))) hE263 (y_assign rfl) rfl rfl rfl ?_; intro a264 hE265; clear hE263
                        refine c_nil ?_
                        have hE266 := hE265.sub (L' := [(1, .int .i64 u), (2, .pointer (some ⟨b2, 0, none⟩)), (4, .pointer (some ⟨b8, 0, none⟩)), (6, .slice b126 ((F_l01List u).length) c127), (7, .pointer (some ⟨b144, 0, none⟩)), (8, .int .i64 mask8), (9, .int .i64 (orI set9L2 (powI (gI (F_l01List u) i10L2)))), (10, .int .i64 i10L2)]) ⟨rfl, rfl, rfl, rfl, rfl, rfl, rfl, rfl, trivial⟩; clear hE265
                        refine p_bn ?_
                        refine p_tn ?_
                        have hE267 := hE266.sub (L' := [(1, .int .i64 u), (2, .pointer (some ⟨b2, 0, none⟩)), (4, .pointer (some ⟨b8, 0, none⟩)), (6, .slice b126 ((F_l01List u).length) c127), (7, .pointer (some ⟨b144, 0, none⟩)), (8, .int .i64 mask8), (9, .int .i64 (orI set9L2 (powI (gI (F_l01List u) i10L2)))), (10, .int .i64 i10L2)]) ⟨rfl, rfl, rfl, rfl, rfl, rfl, rfl, rfl, trivial⟩
                        have hS268 := (St.pick (Γ' := [.own 2 1 q6_1A ((q6_1).length) q6_1C q6_1, .blk b144 #[.int .i64 ((F_l01List u).length : Int), .slice q6_1A ((q6_1).length) q6_1C] 54, .own 2 1 b126 ((F_l01List u).length) c127 (F_l01List u), .blk b8 #[.int .i64 0, .slice none 0 0] 54, .rd 1 ap1A ap1.length ap1C ap1, .blk b2 #[.int .i64 ap0, .slice ap1A ap1.length ap1C] 54]) hS214 [1, 0, 2, 3, 5, 4] (by decide) rfl)
                        exact ⟨(by rw [ht244]; exact hE267), hS268⟩
                      ·
                        have hE269 := hE243; rw [ht244] at hE269; clear hE243
                        refine wp_skip ?_
                        refine p_bn ?_
                        refine p_tn ?_
                        have hE270 := hE269.sub (L' := [(1, .int .i64 u), (2, .pointer (some ⟨b2, 0, none⟩)), (4, .pointer (some ⟨b8, 0, none⟩)), (6, .slice b126 ((F_l01List u).length) c127), (7, .pointer (some ⟨b144, 0, none⟩)), (8, .int .i64 mask8), (9, .int .i64 set9L2), (10, .int .i64 i10L2)]) ⟨rfl, rfl, rfl, rfl, rfl, rfl, rfl, rfl, trivial⟩
                        have hS271 := (St.pick (Γ' := [.own 2 1 q6_1A ((q6_1).length) q6_1C q6_1, .blk b144 #[.int .i64 ((F_l01List u).length : Int), .slice q6_1A ((q6_1).length) q6_1C] 54, .own 2 1 b126 ((F_l01List u).length) c127 (F_l01List u), .blk b8 #[.int .i64 0, .slice none 0 0] 54, .rd 1 ap1A ap1.length ap1C ap1, .blk b2 #[.int .i64 ap0, .slice ap1A ap1.length ap1C] 54]) hS214 [1, 0, 2, 3, 5, 4] (by decide) rfl)
                        exact ⟨(by rw [ht244]; exact hE270), hS271⟩
                    ·
                      rintro a272 w273 ⟨hE274, hS275⟩; clear hE232 hS214
                      refine c_reg ?_
                      refine q_step (v := .int .i64 i10L2) hE274 (y_move rfl) rfl rfl rfl ?_; intro a276 hE277; clear hE274
                      refine q_step (v := .int .i64 (i10L2 + 1)) hE277 (y_add rfl rfl ⟨(by omega), (by omega)⟩) rfl rfl rfl ?_; intro a278 hE279; clear hE277
                      refine q_step (v := .int .i64 (i10L2 + 1)) hE279 (y_assign rfl) rfl rfl rfl ?_; intro a280 hE281; clear hE279
                      refine c_nil ?_
                      have hE282 := hE281.sub (L' := [(1, .int .i64 u), (2, .pointer (some ⟨b2, 0, none⟩)), (4, .pointer (some ⟨b8, 0, none⟩)), (6, .slice b126 ((F_l01List u).length) c127), (7, .pointer (some ⟨b144, 0, none⟩)), (8, .int .i64 mask8), (9, .int .i64 (bif (F_l01Bit mask8 i10L2) then orI set9L2 (powI (gI (F_l01List u) i10L2)) else set9L2)), (10, .int .i64 (i10L2 + 1))]) ⟨rfl, rfl, rfl, rfl, rfl, rfl, rfl, rfl, trivial⟩; clear hE281
                      refine p_tn ⟨r220, Nat.lt_succ_self _, bif (F_l01Bit mask8 i10L2) then orI set9L2 (powI (gI (F_l01List u) i10L2)) else set9L2, i10L2 + 1, (hT215.symm.trans (show F_s_ModalQuotient_L2b u mask8 (F_s_ModalQuotient_L2 u mask8 r220) set9L2 i10L2 = F_s_ModalQuotient_L2 u mask8 r220 (bif (F_l01Bit mask8 i10L2) then orI set9L2 (powI (gI (F_l01List u) i10L2)) else set9L2) (i10L2 + 1) by unfold F_s_ModalQuotient_L2b; rw [ht230]; first | done | rfl)).symm, (by omega), (by first | omega | (simp only [List.length_replicate, sI_len]; omega) | (simp only [List.length_append, List.length_cons, List.length_nil, sI_len, cond_true, cond_false]; omega) | (simp only [List.length_append, List.length_cons, List.length_nil, sI_len, cond_eq_ite, apply_ite List.length]; split <;> simp only [List.length_append, List.length_cons, List.length_nil, sI_len] <;> omega) | grind), (by first | omega | (simp only [List.length_replicate, sI_len]; omega) | (simp only [List.length_append, List.length_cons, List.length_nil, sI_len, cond_true, cond_false]; omega) | (simp only [List.length_append, List.length_cons, List.length_nil, sI_len, cond_eq_ite, apply_ite List.length]; split <;> simp only [List.length_append, List.length_cons, List.length_nil, sI_len] <;> omega) | grind), (by first | omega | (simp only [List.length_replicate, sI_len]; omega) | (simp only [List.length_append, List.length_cons, List.length_nil, sI_len, cond_true, cond_false]; omega) | (simp only [List.length_append, List.length_cons, List.length_nil, sI_len, cond_eq_ite, apply_ite List.length]; split <;> simp only [List.length_append, List.length_cons, List.length_nil, sI_len] <;> omega) | grind), (hE282.sub (L' := [(1, .int .i64 u), (2, .pointer (some ⟨b2, 0, none⟩)), (4, .pointer (some ⟨b8, 0, none⟩)), (6, .slice b126 ((F_l01List u).length) c127), (7, .pointer (some ⟨b144, 0, none⟩)), (8, .int .i64 mask8), (9, .int .i64 (bif (F_l01Bit mask8 i10L2) then orI set9L2 (powI (gI (F_l01List u) i10L2)) else set9L2)), (10, .int .i64 (i10L2 + 1))]) ⟨rfl, rfl, rfl, rfl, rfl, rfl, rfl, rfl, trivial⟩), (St.pick (Γ' := [.blk b144 #[.int .i64 ((F_l01List u).length : Int), .slice q6_1A ((q6_1).length) q6_1C] 54, .own 2 1 q6_1A ((q6_1).length) q6_1C q6_1, .own 2 1 b126 ((F_l01List u).length) c127 (F_l01List u), .blk b8 #[.int .i64 0, .slice none 0 0] 54, .blk b2 #[.int .i64 ap0, .slice ap1A ap1.length ap1C] 54, .rd 1 ap1A ap1.length ap1C ap1]) hS275 [1, 0, 2, 3, 5, 4] (by decide) rfl)⟩
                  ·
                    have hp283 := of_decide_eq_false ht230
                    have hE284 := hE229; rw [ht230] at hE284; clear hE229
                    refine wp_exit ?_
                    refine p_te ?_
                    have hX285 : F_s_ModalQuotient_L2 u mask8 (Int.toNat (((F_l01List u).length : Int) - 0) + 1) (anI (fullI ap0) u) 0 = (set9L2, i10L2) := hT215.symm.trans (show F_s_ModalQuotient_L2b u mask8 (F_s_ModalQuotient_L2 u mask8 r220) set9L2 i10L2 = (set9L2, i10L2) by unfold F_s_ModalQuotient_L2b; rw [ht230]; first | done | rfl)
                    refine p_te (p_be (p_tn ?_))
                    exact ⟨(by rw [hX285]; exact (show 0 ≤ i10L2 from (by first | omega | (simp only [List.length_replicate, sI_len]; omega) | (simp only [List.length_append, List.length_cons, List.length_nil, sI_len, cond_true, cond_false]; omega) | (simp only [List.length_append, List.length_cons, List.length_nil, sI_len, cond_eq_ite, apply_ite List.length]; split <;> simp only [List.length_append, List.length_cons, List.length_nil, sI_len] <;> omega) | grind))), (by rw [hX285]; exact (show 0 ≤ set9L2 ∧ set9L2 ≤ fullI ap0 from (by first | omega | (simp only [List.length_replicate, sI_len]; omega) | (simp only [List.length_append, List.length_cons, List.length_nil, sI_len, cond_true, cond_false]; omega) | (simp only [List.length_append, List.length_cons, List.length_nil, sI_len, cond_eq_ite, apply_ite List.length]; split <;> simp only [List.length_append, List.length_cons, List.length_nil, sI_len] <;> omega) | grind))), (by rw [hX285]; exact (show i10L2 ≤ ((F_l01List u).length : Int) from (by first | omega | (simp only [List.length_replicate, sI_len]; omega) | (simp only [List.length_append, List.length_cons, List.length_nil, sI_len, cond_true, cond_false]; omega) | (simp only [List.length_append, List.length_cons, List.length_nil, sI_len, cond_eq_ite, apply_ite List.length]; split <;> simp only [List.length_append, List.length_cons, List.length_nil, sI_len] <;> omega) | grind))), (by rw [hX285]; exact (hE284.sub (L' := [(1, .int .i64 u), (2, .pointer (some ⟨b2, 0, none⟩)), (4, .pointer (some ⟨b8, 0, none⟩)), (6, .slice b126 ((F_l01List u).length) c127), (7, .pointer (some ⟨b144, 0, none⟩)), (8, .int .i64 mask8), (9, .int .i64 set9L2), (10, .int .i64 i10L2)]) ⟨rfl, rfl, rfl, rfl, rfl, rfl, rfl, rfl, trivial⟩)), (St.pick (Γ' := [.blk b144 #[.int .i64 ((F_l01List u).length : Int), .slice q6_1A ((q6_1).length) q6_1C] 54, .own 2 1 q6_1A ((q6_1).length) q6_1C q6_1, .own 2 1 b126 ((F_l01List u).length) c127 (F_l01List u), .blk b8 #[.int .i64 0, .slice none 0 0] 54, .blk b2 #[.int .i64 ap0, .slice ap1A ap1.length ap1C] 54, .rd 1 ap1A ap1.length ap1C ap1]) hS214 [0, 1, 2, 3, 4, 5] (by decide) rfl)⟩
              ·
                rintro a286 w287 ⟨hi291, hi292, hi293, hE288, hS289⟩; clear hE209 hS164
                refine p_tn ?_
                refine d_start (fun w' => w'.cell? ⟨b144, 1, none⟩ = some (.slice q6_1A ((q6_1).length) q6_1C) ∧ w'.cell? ⟨b2, 1, none⟩ = some (.slice ap1A ap1.length ap1C) ∧ w'.cell? (adr ap1A (Int.toNat ((F_s_ModalQuotient_L2 u mask8 (Int.toNat (((F_l01List u).length : Int) - 0) + 1) (anI (fullI ap0) u) 0).1))) = some (.int .i64 (gI ap1 ((F_s_ModalQuotient_L2 u mask8 (Int.toNat (((F_l01List u).length : Int) - 0) + 1) (anI (fullI ap0) u) 0).1))) ∧ True) [1, 4, 7] 15 (by kernel_rfl) rfl ?_
                intro w294 he295; have hS296 := St.go hS289 he295; clear hS289
                refine d_pure (v := .pointer (some ⟨b144, 1, none⟩)) 0 rfl hE288 (y_field rfl (fun _ => by kernel_rfl)) rfl (by kernel_rfl) (by kernel_rfl) (by kernel_rfl) rfl rfl (fun _ _ _ h => h) ?_; intro a297 hE298; clear hE288
                refine d_take (v := .slice q6_1A ((q6_1).length) q6_1C) 1 rfl hE298 ⟨(St.cell (i := 0) hS296 rfl rfl _ (Ext.refl _)), (St.cell (i := 4) hS296 rfl rfl _ (Ext.refl _)), (RdS.elt (St.rdR (i := 5) hS296 rfl) (by omega) (by omega) _ (Ext.refl _)), trivial⟩ (y_load (fun _ => by kernel_rfl) rfl (fun _ h => h.1)) rfl rfl (by kernel_rfl) (by kernel_rfl) (by kernel_rfl) rfl rfl (fun _ _ _ h => h) ?_; intro a299 hE300; clear hE298
                refine d_pure (v := .slice b126 ((F_l01List u).length) c127) 2 rfl hE300 (y_move rfl) rfl (by kernel_rfl) (by kernel_rfl) (by kernel_rfl) rfl rfl (fun _ _ _ h => h) ?_; intro a301 hE302; clear hE300
                refine d_pure (v := .pointer (some ⟨b2, 1, none⟩)) 3 rfl hE302 (y_field rfl (fun _ => by kernel_rfl)) rfl (by kernel_rfl) (by kernel_rfl) (by kernel_rfl) rfl rfl (fun _ _ _ h => h) ?_; intro a303 hE304; clear hE302
                refine d_take (v := .slice ap1A ap1.length ap1C) 4 rfl hE304 ⟨(St.cell (i := 0) hS296 rfl rfl _ (Ext.refl _)), (St.cell (i := 4) hS296 rfl rfl _ (Ext.refl _)), (RdS.elt (St.rdR (i := 5) hS296 rfl) (by omega) (by omega) _ (Ext.refl _)), trivial⟩ (y_load (fun _ => by kernel_rfl) rfl (fun _ h => h.2.1)) rfl rfl (by kernel_rfl) (by kernel_rfl) (by kernel_rfl) rfl rfl (fun _ _ _ h => h) ?_; intro a305 hE306; clear hE304
                refine d_pure (v := .int .i64 ((F_s_ModalQuotient_L2 u mask8 (Int.toNat (((F_l01List u).length : Int) - 0) + 1) (anI (fullI ap0) u) 0).1)) 5 rfl hE306 (y_move rfl) rfl (by kernel_rfl) (by kernel_rfl) (by kernel_rfl) rfl rfl (fun _ _ _ h => h) ?_; intro a307 hE308; clear hE306
                refine d_pure (v := .pointer (some (adr ap1A (Int.toNat ((F_s_ModalQuotient_L2 u mask8 (Int.toNat (((F_l01List u).length : Int) - 0) + 1) (anI (fullI ap0) u) 0).1))))) 6 rfl hE308 (y_idx (by kernel_rfl) (fun _ => by kernel_rfl) rfl rfl (RdS.isS (m := (F_s_ModalQuotient_L2 u mask8 (Int.toNat (((F_l01List u).length : Int) - 0) + 1) (anI (fullI ap0) u) 0).1) (St.rdR (i := 5) hS296 rfl) (by omega) (by omega)) (by omega) (by omega) (Nat.mul_one _).symm) rfl (by kernel_rfl) (by kernel_rfl) (by kernel_rfl) rfl rfl (fun _ _ _ h => h) ?_; intro a309 hE310; clear hE308
                refine d_take (v := .int .i64 (gI ap1 ((F_s_ModalQuotient_L2 u mask8 (Int.toNat (((F_l01List u).length : Int) - 0) + 1) (anI (fullI ap0) u) 0).1))) 7 rfl hE310 ⟨(St.cell (i := 0) hS296 rfl rfl _ (Ext.refl _)), (St.cell (i := 4) hS296 rfl rfl _ (Ext.refl _)), (RdS.elt (St.rdR (i := 5) hS296 rfl) (by omega) (by omega) _ (Ext.refl _)), trivial⟩ (y_load (fun _ => by kernel_rfl) rfl (fun _ h => h.2.2.1)) rfl rfl (by kernel_rfl) (by kernel_rfl) (by kernel_rfl) rfl rfl (fun _ _ _ h => h) ?_; intro a311 hE312; clear hE310
                refine d_pure (v := .int .i64 u) 8 rfl hE312 (y_move rfl) rfl (by kernel_rfl) (by kernel_rfl) (by kernel_rfl) rfl rfl (fun _ _ _ h => h) ?_; intro a313 hE314; clear hE312
                refine d_pure (v := .int .i64 (andI (gI ap1 ((F_s_ModalQuotient_L2 u mask8 (Int.toNat (((F_l01List u).length : Int) - 0) + 1) (anI (fullI ap0) u) 0).1)) u)) 9 rfl hE314 (y_and rfl rfl) rfl (by kernel_rfl) (by kernel_rfl) (by kernel_rfl) rfl rfl (fun _ _ _ h => h) ?_; intro a315 hE316; clear hE314
                refine d_only 10 (by kernel_rfl) rfl hE316 rfl (l_call (f := 72) (argv := [.slice b126 ((F_l01List u).length) c127, .int .i64 (andI (gI ap1 ((F_s_ModalQuotient_L2 u mask8 (Int.toNat (((F_l01List u).length : Int) - 0) + 1) (anI (fullI ap0) u) 0).1)) u)]) hE316 (fun _ => cf_l05Squeeze _ _) rfl rfl (c_l05Squeeze b126 ((F_l01List u).length) c127 (F_l01List u) (andI (gI ap1 ((F_s_ModalQuotient_L2 u mask8 (Int.toNat (((F_l01List u).length : Int) - 0) + 1) (anI (fullI ap0) u) 0).1)) u) w294 (St.rdO (i := 2) hS296 rfl) (by omega) (fun m h0 h1 => by have := hL m h0 h1; omega)) ?_)
                rintro _ w318 ⟨rfl, he322⟩ a319 hE320; clear hE316
                have hS321 := St.go hS296 he322; clear hS296
                refine ⟨fun _ _ => ⟨(St.cell (i := 0) hS321 rfl rfl _ (Ext.refl _)), (St.cell (i := 4) hS321 rfl rfl _ (Ext.refl _)), (RdS.elt (St.rdR (i := 5) hS321 rfl) (by omega) (by omega) _ (Ext.refl _)), trivial⟩, ?_⟩
                refine d_only 11 (by kernel_rfl) rfl hE320 rfl (l_lit (e := 2) (s := 1) (xs := [F_l05Squeeze (F_l01List u) (andI (gI ap1 ((F_s_ModalQuotient_L2 u mask8 (Int.toNat (((F_l01List u).length : Int) - 0) + 1) (anI (fullI ap0) u) 0).1)) u)]) (vs := [.int .i64 (F_l05Squeeze (F_l01List u) (andI (gI ap1 ((F_s_ModalQuotient_L2 u mask8 (Int.toNat (((F_l01List u).length : Int) - 0) + 1) (anI (fullI ap0) u) 0).1)) u))]) hS321 hE320 rfl (fun _ => by kernel_rfl) rfl rfl rfl ?_)
                intro b323 w324 hS327 he328 a325 hE326; clear hS321 hE320
                refine ⟨fun _ _ => ⟨(St.cell (i := 1) hS327 rfl rfl _ (Ext.refl _)), (St.cell (i := 5) hS327 rfl rfl _ (Ext.refl _)), (RdS.elt (St.rdR (i := 6) hS327 rfl) (by omega) (by omega) _ (Ext.refl _)), trivial⟩, ?_⟩
                obtain ⟨_, hi1, hi2, hi3, hi4⟩ := info_parts (show (Try.prog.info? 2).map (fun i => (i.zero, i.size, i.bytes)) = some (some (.int .i64 0), 1, 8) by kernel_rfl)
                refine d_only 12 (by kernel_rfl) rfl hE326 rfl (l_append (k := 2) (n' := (q6_1 ++ ([F_l05Squeeze (F_l01List u) (andI (gI ap1 ((F_s_ModalQuotient_L2 u mask8 (Int.toNat (((F_l01List u).length : Int) - 0) + 1) (anI (fullI ap0) u) 0).1)) u)])).length) hS327 hE326 (by kernel_rfl) hi1 hi2 hi3 rfl (by decide) (by rw [hi4]; decide) rfl rfl rfl (St.rdO (i := 0) hS327 rfl) (by first | omega | (simp only [List.length_append, List.length_cons, List.length_nil]; omega)) (by have h1 := (St.rdO (i := 2) hS327 rfl).len1; have h2 := (St.rdO (i := 0) hS327 rfl).len1; rw [List.length_append, h1, h2]) rfl ?_)
                intro b329 c335 w330 hS333 a331 hE332; clear hS327 hE326 hi1 hi2 hi3 hi4
                refine ⟨fun _ _ => ⟨(St.cell (i := 1) hS333 rfl rfl _ (Ext.refl _)), (St.cell (i := 5) hS333 rfl rfl _ (Ext.refl _)), (RdS.elt (St.rdR (i := 6) hS333 rfl) (by omega) (by omega) _ (Ext.refl _)), trivial⟩, ?_⟩
                refine d_pure (v := .pointer (some ⟨b144, 1, none⟩)) 13 rfl hE332 (y_field rfl (fun _ => by kernel_rfl)) rfl (by kernel_rfl) (by kernel_rfl) (by kernel_rfl) rfl rfl (fun _ _ _ h => h) ?_; intro a336 hE337; clear hE332
                refine d_only 14 (by kernel_rfl) rfl hE337 rfl (l_storeB (k := 1) (cs' := #[.int .i64 ((F_l01List u).length : Int), .slice b329 ((q6_1 ++ ([F_l05Squeeze (F_l01List u) (andI (gI ap1 ((F_s_ModalQuotient_L2 u mask8 (Int.toNat (((F_l01List u).length : Int) - 0) + 1) (anI (fullI ap0) u) 0).1)) u)])).length) c335]) hS333 hE337 (fun _ => by kernel_rfl) rfl rfl rfl rfl rfl rfl rfl ?_)
                intro w339 hS342 a340 hE341; clear hS333 hE337
                refine ⟨fun h => Bool.noConfusion (h.symm.trans (show exm _ _ _ = true by kernel_rfl)), ?_⟩
                refine d_done (by kernel_rfl) ?_
                have hE344 := hE341.sub (L' := [(1, .int .i64 u), (2, .pointer (some ⟨b2, 0, none⟩)), (4, .pointer (some ⟨b8, 0, none⟩)), (6, .slice b126 ((F_l01List u).length) c127), (7, .pointer (some ⟨b144, 0, none⟩)), (8, .int .i64 mask8)]) ⟨rfl, rfl, rfl, rfl, rfl, rfl, trivial⟩; clear hE341
                refine p_bn ?_
                refine p_tn ?_
                refine c_reg ?_
                refine q_step (v := .int .i64 mask8) hE344 (y_move rfl) rfl rfl rfl ?_; intro a345 hE346; clear hE344
                refine q_step (v := .int .i64 (mask8 + 1)) hE346 (y_add rfl rfl ⟨(by omega), (by omega)⟩) rfl rfl rfl ?_; intro a347 hE348; clear hE346
                refine q_step (v := .int .i64 (mask8 + 1)) hE348 (y_assign rfl) rfl rfl rfl ?_; intro a349 hE350; clear hE348
                refine c_nil ?_
                have hE351 := hE350.sub (L' := [(1, .int .i64 u), (2, .pointer (some ⟨b2, 0, none⟩)), (4, .pointer (some ⟨b8, 0, none⟩)), (6, .slice b126 ((F_l01List u).length) c127), (7, .pointer (some ⟨b144, 0, none⟩)), (8, .int .i64 (mask8 + 1))]) ⟨rfl, rfl, rfl, rfl, rfl, rfl, trivial⟩; clear hE350
                refine p_tn ⟨r171, Nat.lt_succ_self _, mask8 + 1, q6_1 ++ ([F_l05Squeeze (F_l01List u) (andI (gI ap1 ((F_s_ModalQuotient_L2 u mask8 (Int.toNat (((F_l01List u).length : Int) - 0) + 1) (anI (fullI ap0) u) 0).1)) u)]), b329, c335, (hT165.symm.trans (show F_s_ModalQuotient_L1b ap0 ap1 u (F_s_ModalQuotient_L1 ap0 ap1 u r171) mask8 q6_1 = F_s_ModalQuotient_L1 ap0 ap1 u r171 (mask8 + 1) (q6_1 ++ ([F_l05Squeeze (F_l01List u) (andI (gI ap1 ((F_s_ModalQuotient_L2 u mask8 (Int.toNat (((F_l01List u).length : Int) - 0) + 1) (anI (fullI ap0) u) 0).1)) u)])) by unfold F_s_ModalQuotient_L1b; rw [ht187]; first | done | rfl)).symm, (by omega), (by first | omega | (simp only [List.length_replicate, sI_len]; omega) | (simp only [List.length_append, List.length_cons, List.length_nil, sI_len, cond_true, cond_false]; omega) | (simp only [List.length_append, List.length_cons, List.length_nil, sI_len, cond_eq_ite, apply_ite List.length]; split <;> simp only [List.length_append, List.length_cons, List.length_nil, sI_len] <;> omega) | grind), (by first | omega | (simp only [List.length_replicate, sI_len]; omega) | (simp only [List.length_append, List.length_cons, List.length_nil, sI_len, cond_true, cond_false]; omega) | (simp only [List.length_append, List.length_cons, List.length_nil, sI_len, cond_eq_ite, apply_ite List.length]; split <;> simp only [List.length_append, List.length_cons, List.length_nil, sI_len] <;> omega) | grind), (by first | omega | (simp only [List.length_replicate, sI_len]; omega) | (simp only [List.length_append, List.length_cons, List.length_nil, sI_len, cond_true, cond_false]; omega) | (simp only [List.length_append, List.length_cons, List.length_nil, sI_len, cond_eq_ite, apply_ite List.length]; split <;> simp only [List.length_append, List.length_cons, List.length_nil, sI_len] <;> omega) | grind), (by first | omega | (simp only [List.length_replicate, sI_len]; omega) | (simp only [List.length_append, List.length_cons, List.length_nil, sI_len, cond_true, cond_false]; omega) | (simp only [List.length_append, List.length_cons, List.length_nil, sI_len, cond_eq_ite, apply_ite List.length]; split <;> simp only [List.length_append, List.length_cons, List.length_nil, sI_len] <;> omega) | grind), (hE351.sub (L' := [(1, .int .i64 u), (2, .pointer (some ⟨b2, 0, none⟩)), (4, .pointer (some ⟨b8, 0, none⟩)), (6, .slice b126 ((F_l01List u).length) c127), (7, .pointer (some ⟨b144, 0, none⟩)), (8, .int .i64 (mask8 + 1))]) ⟨rfl, rfl, rfl, rfl, rfl, rfl, trivial⟩), (St.pick (Γ' := [.blk b144 #[.int .i64 ((F_l01List u).length : Int), .slice b329 ((q6_1 ++ ([F_l05Squeeze (F_l01List u) (andI (gI ap1 ((F_s_ModalQuotient_L2 u mask8 (Int.toNat (((F_l01List u).length : Int) - 0) + 1) (anI (fullI ap0) u) 0).1)) u)])).length) c335] 54, .own 2 1 b329 ((q6_1 ++ ([F_l05Squeeze (F_l01List u) (andI (gI ap1 ((F_s_ModalQuotient_L2 u mask8 (Int.toNat (((F_l01List u).length : Int) - 0) + 1) (anI (fullI ap0) u) 0).1)) u)])).length) c335 (q6_1 ++ ([F_l05Squeeze (F_l01List u) (andI (gI ap1 ((F_s_ModalQuotient_L2 u mask8 (Int.toNat (((F_l01List u).length : Int) - 0) + 1) (anI (fullI ap0) u) 0).1)) u)])), .own 2 1 b126 ((F_l01List u).length) c127 (F_l01List u), .blk b8 #[.int .i64 0, .slice none 0 0] 54, .blk b2 #[.int .i64 ap0, .slice ap1A ap1.length ap1C] 54, .rd 1 ap1A ap1.length ap1C ap1]) hS342 [1, 2, 3, 4, 5, 6] (by decide) rfl)⟩
            ·
              have hp352 := of_decide_eq_false ht187
              have hE353 := hE186; rw [ht187] at hE353; clear hE186
              refine wp_exit ?_
              refine p_te ?_
              have hX354 : F_s_ModalQuotient_L1 ap0 ap1 u (Int.toNat ((fullI ((F_l01List u).length : Int)) + 1 - 0) + 1) 0 ([]) = (mask8, q6_1) := hT165.symm.trans (show F_s_ModalQuotient_L1b ap0 ap1 u (F_s_ModalQuotient_L1 ap0 ap1 u r171) mask8 q6_1 = (mask8, q6_1) by unfold F_s_ModalQuotient_L1b; rw [ht187]; first | done | rfl)
              refine p_te (p_be (p_tn ?_))
              exact ⟨q6_1A, q6_1C, (by rw [hX354]; exact (show 0 ≤ mask8 from (by first | omega | (simp only [List.length_replicate, sI_len]; omega) | (simp only [List.length_append, List.length_cons, List.length_nil, sI_len, cond_true, cond_false]; omega) | (simp only [List.length_append, List.length_cons, List.length_nil, sI_len, cond_eq_ite, apply_ite List.length]; split <;> simp only [List.length_append, List.length_cons, List.length_nil, sI_len] <;> omega) | grind))), (by rw [hX354]; exact (show (q6_1.length : Int) = mask8 from (by first | omega | (simp only [List.length_replicate, sI_len]; omega) | (simp only [List.length_append, List.length_cons, List.length_nil, sI_len, cond_true, cond_false]; omega) | (simp only [List.length_append, List.length_cons, List.length_nil, sI_len, cond_eq_ite, apply_ite List.length]; split <;> simp only [List.length_append, List.length_cons, List.length_nil, sI_len] <;> omega) | grind))), (by rw [hX354]; exact (show mask8 ≤ fullI ((F_l01List u).length : Int) + 1 from (by first | omega | (simp only [List.length_replicate, sI_len]; omega) | (simp only [List.length_append, List.length_cons, List.length_nil, sI_len, cond_true, cond_false]; omega) | (simp only [List.length_append, List.length_cons, List.length_nil, sI_len, cond_eq_ite, apply_ite List.length]; split <;> simp only [List.length_append, List.length_cons, List.length_nil, sI_len] <;> omega) | grind))), (by rw [hX354]; exact (show (q6_1.length : Int) ≤ mask8 from (by first | omega | (simp only [List.length_replicate, sI_len]; omega) | (simp only [List.length_append, List.length_cons, List.length_nil, sI_len, cond_true, cond_false]; omega) | (simp only [List.length_append, List.length_cons, List.length_nil, sI_len, cond_eq_ite, apply_ite List.length]; split <;> simp only [List.length_append, List.length_cons, List.length_nil, sI_len] <;> omega) | grind))), (by rw [hX354]; exact (hE353.sub (L' := [(1, .int .i64 u), (2, .pointer (some ⟨b2, 0, none⟩)), (4, .pointer (some ⟨b8, 0, none⟩)), (6, .slice b126 ((F_l01List u).length) c127), (7, .pointer (some ⟨b144, 0, none⟩)), (8, .int .i64 mask8)]) ⟨rfl, rfl, rfl, rfl, rfl, rfl, trivial⟩)), (by rw [hX354]; exact (St.pick (Γ' := [.blk b144 #[.int .i64 ((F_l01List u).length : Int), .slice q6_1A ((q6_1).length) q6_1C] 54, .own 2 1 q6_1A ((q6_1).length) q6_1C q6_1, .own 2 1 b126 ((F_l01List u).length) c127 (F_l01List u), .blk b8 #[.int .i64 0, .slice none 0 0] 54, .blk b2 #[.int .i64 ap0, .slice ap1A ap1.length ap1C] 54, .rd 1 ap1A ap1.length ap1C ap1]) hS164 [0, 1, 2, 3, 4, 5] (by decide) rfl))⟩
        ·
          rintro a355 w356 ⟨q6_1A_160, q6_1C_160, hi360, hi361, hi362, hi363, hE357, hS358⟩; clear hE159 hS154
          refine p_tn ?_
          refine c_seq ?_
          refine c_reg ?_
          refine q_step (v := .agg #[.int .i64 ((F_l01List u).length : Int), .slice q6_1A_160 (((F_s_ModalQuotient_L1 ap0 ap1 u (Int.toNat ((fullI ((F_l01List u).length : Int)) + 1 - 0) + 1) 0 ([])).2).length) q6_1C_160]) hE357 (y_loadS Try.underlying54 rfl (by kernel_rfl) rfl (St.row (i := 0) hS358 rfl)) rfl rfl rfl ?_; intro a364 hE365; clear hE357
          refine l_step hE365 rfl (l_storeS (k := 3) (cs' := #[.int .i64 ((F_l01List u).length : Int), .slice q6_1A_160 (((F_s_ModalQuotient_L1 ap0 ap1 u (Int.toNat ((fullI ((F_l01List u).length : Int)) + 1 - 0) + 1) 0 ([])).2).length) q6_1C_160]) hS358 hE365 (by kernel_rfl) rfl rfl (by kernel_rfl) rfl rfl ?_)
          intro w367 hS370 a368 hE369; clear hS358 hE365
          refine q_step (v := .int .i64 0) hE369 (y_assign rfl) rfl rfl rfl ?_; intro a372 hE373; clear hE369
          refine c_nil ?_
          have hE374 := hE373.sub (L' := [(4, .pointer (some ⟨b8, 0, none⟩)), (5, .int .i64 0)]) ⟨rfl, rfl, trivial⟩; clear hE373
          refine p_tn ?_
          refine wp_ret ?_
          have hF : F_s_ModalQuotient ap0 ap1 u = ((((F_l01List u).length : Int), (F_s_ModalQuotient_L1 ap0 ap1 u (Int.toNat ((fullI ((F_l01List u).length : Int)) + 1 - 0) + 1) 0 ([])).2), 0) := by unfold F_s_ModalQuotient; rw [ht100, ht66, ht28]; first | done | rfl
          refine c_retC2 hE374 rfl rfl rfl Try.underlying54 rfl (by kernel_rfl) (St.row (i := 3) hS370 rfl _ (Ext.refl _)) ?_
          exact ⟨q6_1A_160, q6_1C_160, (by rw [hF]; first | done | rfl), (by rw [hF]; exact hS370.ok 1 _ rfl), hS370.ext⟩

def F_ModalQuotient_L1b (ap0 : Int) (ap1 : List Int) (u : Int) (rec : Int → (List Int) → Int × (List Int)) (t31 : Int) (q4_1 : List Int) : Int × (List Int) :=
  bif (decide (t31 < ((fullI (F_countMembers u)) + 1))) then (rec (t31 + 1) (q4_1 ++ ([F_squeeze (gI ap1 (orI (F_spread t31 u) (anI (fullI ap0) u))) u]))) else (t31, q4_1)
def F_ModalQuotient_L1 (ap0 : Int) (ap1 : List Int) (u : Int) : Nat → Int → (List Int) → Int × (List Int)
  | 0, t31, q4_1 => (t31, q4_1)
  | r + 1, t31, q4_1 => F_ModalQuotient_L1b ap0 ap1 u (F_ModalQuotient_L1 ap0 ap1 u r) t31 q4_1
def F_ModalQuotient (ap0 : Int) (ap1 : List Int) (u : Int) : (Int × List Int) × (Int) :=
  bif (!(F_isModalAlgebra ap0 ap1)) then ((0, []), 1) else (bif (!(F_ModalAlgebra_isElement ap0 ap1 u)) then ((0, []), 2) else (bif (!(F_ModalAlgebra_isOpen ap0 ap1 u)) then ((0, []), 5) else ((F_countMembers u, (F_ModalQuotient_L1 ap0 ap1 u (Int.toNat (((fullI (F_countMembers u)) + 1) - 0) + 1) 0 ([])).2), 0)))
theorem cf_ModalQuotient (args : Array Value) (w : World) : (callFunc 39 args).run Try.prog w = .ok (.enter 39 args) w := by kernel_rfl
set_option maxRecDepth 100000 in
theorem c_ModalQuotient (ap0 : Int) (ap1A : Option Addr) (ap1N ap1C : Nat) (ap1 : List Int) (u : Int) (w : World) (ap1R : RdS w 1 ap1A ap1N ap1C ap1) :
    Calls Try.prog 39 #[.agg #[.int .i64 ap0, .slice ap1A ap1N ap1C], .int .i64 u] w (Ret fun v w' => ∃ b1 : Option Addr, ∃ c1 : Nat, v = .tuple #[.agg #[.int .i64 (((F_ModalQuotient ap0 ap1 u).1).1), .slice b1 (((F_ModalQuotient ap0 ap1 u).1).2).length c1], .int .i64 ((F_ModalQuotient ap0 ap1 u).2)] ∧ OwnS w' w.heap.size 2 1 b1 (((F_ModalQuotient ap0 ap1 u).1).2).length c1 (((F_ModalQuotient ap0 ap1 u).1).2) ∧ Ext w w') := by
  obtain rfl : ap1N = ap1.length := ap1R.len1.symm
  have ap1Le := ap1R.le
  have hS := St.nil w
  have hS1 := St.rd0 hS rfl ap1R; clear hS
  refine enter (args := [.agg #[.int .i64 ap0, .slice ap1A ap1.length ap1C], .int .i64 u]) Try.func39 rfl rfl ?_
  rw [Try.ntmps39]; intro a hE
  have hE := hE.sub (L' := [(0, .agg #[.int .i64 ap0, .slice ap1A ap1.length ap1C]), (1, .int .i64 u)]) ⟨rfl, rfl, trivial⟩
  refine c_seq ?_
  refine c_reg ?_
  refine l_step hE rfl (l_box (v := .agg #[.int .i64 ap0, .slice ap1A ap1.length ap1C]) (cs := #[.int .i64 ap0, .slice ap1A ap1.length ap1C]) hS1 hE rfl rfl rfl ?_)
  intro b2 w3 hS6 he7 a4 hE5; clear hS1 hE
  refine l_step hE5 rfl (l_alloc (z := .agg #[.int .i64 0, .slice none 0 0]) (cs := #[.int .i64 0, .slice none 0 0]) hS6 hE5 (fun _ => by kernel_rfl) rfl rfl ?_)
  intro b8 w9 hS12 he13 a10 hE11; clear hS6 hE5
  refine q_step (v := .int .i64 0) hE11 (y_assign rfl) rfl rfl rfl ?_; intro a14 hE15; clear hE11
  refine c_nil ?_
  have hE16 := hE15.sub (L' := [(1, .int .i64 u), (2, .pointer (some ⟨b2, 0, none⟩)), (4, .pointer (some ⟨b8, 0, none⟩))]) ⟨rfl, rfl, rfl, trivial⟩; clear hE15
  refine p_tn ?_
  refine c_seq ?_
  refine wp_block ?_
  refine c_seq ?_
  refine c_reg ?_
  refine q_step (v := .agg #[.int .i64 ap0, .slice ap1A ap1.length ap1C]) hE16 (y_loadS Try.underlying54 rfl (by kernel_rfl) rfl (St.row (i := 1) hS12 rfl)) rfl rfl rfl ?_; intro a17 hE18; clear hE16
  refine l_step hE18 rfl (l_call (f := 81) (argv := [.agg #[.int .i64 ap0, .slice ap1A ap1.length ap1C]]) hE18 (fun _ => cf_isModalAlgebra _ _) rfl rfl (c_isModalAlgebra ap0 ap1A ap1.length ap1C ap1 w9 (St.rdR (i := 2) hS12 rfl)) ?_)
  rintro _ w20 ⟨rfl, he24⟩ a21 hE22; clear hE18
  have hS23 := St.go hS12 he24; clear hS12
  refine q_step (v := .bool (!(F_isModalAlgebra ap0 ap1))) hE22 (y_not rfl) rfl rfl rfl ?_; intro a25 hE26; clear hE22
  refine q_step (v := .bool (!(F_isModalAlgebra ap0 ap1))) hE26 (y_assign rfl) rfl rfl rfl ?_; intro a27 hE28; clear hE26
  refine c_nil ?_
  have hE29 := hE28.sub (L' := [(1, .int .i64 u), (2, .pointer (some ⟨b2, 0, none⟩)), (4, .pointer (some ⟨b8, 0, none⟩)), (8, .bool (!(F_isModalAlgebra ap0 ap1)))]) ⟨rfl, rfl, rfl, rfl, trivial⟩; clear hE28
  refine p_tn ?_
  refine c_cond hE29 rfl (fun ht30 => ?_) (fun ht30 => ?_)
  ·
    have ht31 := bn_t ht30
    have hE32 := hE29; rw [ht30] at hE32; clear hE29
    refine c_seq ?_
    refine c_reg ?_
    refine q_step (v := .agg #[.int .i64 0, .slice none 0 0]) hE32 (y_build (vs := #[]) (fun a n hE => by simp) (fun _ => by kernel_rfl)) rfl rfl rfl ?_; intro a33 hE34; clear hE32
    refine l_step hE34 rfl (l_storeS (k := 0) (cs' := #[.int .i64 0, .slice none 0 0]) hS23 hE34 (by kernel_rfl) rfl rfl (by kernel_rfl) rfl rfl ?_)
    intro w36 hS39 a37 hE38; clear hS23 hE34
    refine q_step (v := .int .i64 1) hE38 (y_assign rfl) rfl rfl rfl ?_; intro a41 hE42; clear hE38
    refine c_nil ?_
    have hE43 := hE42.sub (L' := [(4, .pointer (some ⟨b8, 0, none⟩)), (5, .int .i64 1)]) ⟨rfl, rfl, trivial⟩; clear hE42
    refine p_tn ?_
    refine wp_ret ?_
    refine p_br ?_
    refine p_tr ?_
    have hF : F_ModalQuotient ap0 ap1 u = ((0, []), 1) := by unfold F_ModalQuotient; rw [ht30]; first | done | rfl
    refine c_retC2 hE43 rfl rfl rfl Try.underlying54 rfl (by kernel_rfl) (St.row (i := 0) hS39 rfl _ (Ext.refl _)) ?_
    exact ⟨none, 0, (by rw [hF]; first | done | rfl), (by rw [hF]; exact OwnS.nilS _ _ _ _), hS39.ext⟩
  ·
    have ht44 := bn_f ht30
    have hp45 := isModal_t ht44
    have hE46 := hE29; rw [ht30] at hE46; clear hE29
    refine c_seq ?_
    refine c_reg ?_
    refine q_step (v := .agg #[.int .i64 ap0, .slice ap1A ap1.length ap1C]) hE46 (y_loadS Try.underlying54 rfl (by kernel_rfl) rfl (St.row (i := 1) hS23 rfl)) rfl rfl rfl ?_; intro a47 hE48; clear hE46
    refine q_step (v := .int .i64 u) hE48 (y_move rfl) rfl rfl rfl ?_; intro a49 hE50; clear hE48
    refine l_step hE50 rfl (l_call (f := 82) (argv := [.agg #[.int .i64 ap0, .slice ap1A ap1.length ap1C], .int .i64 u]) hE50 (fun _ => cf_ModalAlgebra_isElement _ _) rfl rfl (c_ModalAlgebra_isElement ap0 ap1A ap1.length ap1C ap1 u w20 (St.rdR (i := 2) hS23 rfl) (by omega) (by omega)) ?_)
    rintro _ w52 ⟨rfl, he56⟩ a53 hE54; clear hE50
    have hS55 := St.go hS23 he56; clear hS23
    refine q_step (v := .bool (!(F_ModalAlgebra_isElement ap0 ap1 u))) hE54 (y_not rfl) rfl rfl rfl ?_; intro a57 hE58; clear hE54
    refine q_step (v := .bool (!(F_ModalAlgebra_isElement ap0 ap1 u))) hE58 (y_assign rfl) rfl rfl rfl ?_; intro a59 hE60; clear hE58
    refine c_nil ?_
    have hE61 := hE60.sub (L' := [(1, .int .i64 u), (2, .pointer (some ⟨b2, 0, none⟩)), (4, .pointer (some ⟨b8, 0, none⟩)), (13, .bool (!(F_ModalAlgebra_isElement ap0 ap1 u)))]) ⟨rfl, rfl, rfl, rfl, trivial⟩; clear hE60
    refine p_tn ?_
    refine c_cond hE61 rfl (fun ht62 => ?_) (fun ht62 => ?_)
    ·
      have ht63 := bn_t ht62
      have hE64 := hE61; rw [ht62] at hE64; clear hE61
      refine c_seq ?_
      refine c_reg ?_
      refine q_step (v := .agg #[.int .i64 0, .slice none 0 0]) hE64 (y_build (vs := #[]) (fun a n hE => by simp) (fun _ => by kernel_rfl)) rfl rfl rfl ?_; intro a65 hE66; clear hE64
      refine l_step hE66 rfl (l_storeS (k := 0) (cs' := #[.int .i64 0, .slice none 0 0]) hS55 hE66 (by kernel_rfl) rfl rfl (by kernel_rfl) rfl rfl ?_)
      intro w68 hS71 a69 hE70; clear hS55 hE66
      refine q_step (v := .int .i64 2) hE70 (y_assign rfl) rfl rfl rfl ?_; intro a73 hE74; clear hE70
      refine c_nil ?_
      have hE75 := hE74.sub (L' := [(4, .pointer (some ⟨b8, 0, none⟩)), (5, .int .i64 2)]) ⟨rfl, rfl, trivial⟩; clear hE74
      refine p_tn ?_
      refine wp_ret ?_
      refine p_br ?_
      refine p_tr ?_
      have hF : F_ModalQuotient ap0 ap1 u = ((0, []), 2) := by unfold F_ModalQuotient; rw [ht62, ht30]; first | done | rfl
      refine c_retC2 hE75 rfl rfl rfl Try.underlying54 rfl (by kernel_rfl) (St.row (i := 0) hS71 rfl _ (Ext.refl _)) ?_
      exact ⟨none, 0, (by rw [hF]; first | done | rfl), (by rw [hF]; exact OwnS.nilS _ _ _ _), hS71.ext⟩
    ·
      have ht76 := bn_f ht62
      have hp77 := isElement_t ht76
      have hE78 := hE61; rw [ht62] at hE78; clear hE61
      refine c_seq ?_
      refine c_reg ?_
      refine q_step (v := .agg #[.int .i64 ap0, .slice ap1A ap1.length ap1C]) hE78 (y_loadS Try.underlying54 rfl (by kernel_rfl) rfl (St.row (i := 1) hS55 rfl)) rfl rfl rfl ?_; intro a79 hE80; clear hE78
      refine q_step (v := .int .i64 u) hE80 (y_move rfl) rfl rfl rfl ?_; intro a81 hE82; clear hE80
      refine l_step hE82 rfl (l_call (f := 83) (argv := [.agg #[.int .i64 ap0, .slice ap1A ap1.length ap1C], .int .i64 u]) hE82 (fun _ => cf_ModalAlgebra_isOpen _ _) rfl rfl (c_ModalAlgebra_isOpen ap0 ap1A ap1.length ap1C ap1 u w52 (St.rdR (i := 2) hS55 rfl) (by omega) (by omega)) ?_)
      rintro _ w84 ⟨rfl, he88⟩ a85 hE86; clear hE82
      have hS87 := St.go hS55 he88; clear hS55
      refine q_step (v := .bool (!(F_ModalAlgebra_isOpen ap0 ap1 u))) hE86 (y_not rfl) rfl rfl rfl ?_; intro a89 hE90; clear hE86
      refine q_step (v := .bool (!(F_ModalAlgebra_isOpen ap0 ap1 u))) hE90 (y_assign rfl) rfl rfl rfl ?_; intro a91 hE92; clear hE90
      refine c_nil ?_
      have hE93 := hE92.sub (L' := [(1, .int .i64 u), (2, .pointer (some ⟨b2, 0, none⟩)), (4, .pointer (some ⟨b8, 0, none⟩)), (19, .bool (!(F_ModalAlgebra_isOpen ap0 ap1 u)))]) ⟨rfl, rfl, rfl, rfl, trivial⟩; clear hE92
      refine p_tn ?_
      refine c_cond hE93 rfl (fun ht94 => ?_) (fun ht94 => ?_)
      ·
        have ht95 := bn_t ht94
        have hE96 := hE93; rw [ht94] at hE96; clear hE93
        refine c_seq ?_
        refine c_reg ?_
        refine q_step (v := .agg #[.int .i64 0, .slice none 0 0]) hE96 (y_build (vs := #[]) (fun a n hE => by simp) (fun _ => by kernel_rfl)) rfl rfl rfl ?_; intro a97 hE98; clear hE96
        refine l_step hE98 rfl (l_storeS (k := 0) (cs' := #[.int .i64 0, .slice none 0 0]) hS87 hE98 (by kernel_rfl) rfl rfl (by kernel_rfl) rfl rfl ?_)
        intro w100 hS103 a101 hE102; clear hS87 hE98
        refine q_step (v := .int .i64 5) hE102 (y_assign rfl) rfl rfl rfl ?_; intro a105 hE106; clear hE102
        refine c_nil ?_
        have hE107 := hE106.sub (L' := [(4, .pointer (some ⟨b8, 0, none⟩)), (5, .int .i64 5)]) ⟨rfl, rfl, trivial⟩; clear hE106
        refine p_tn ?_
        refine wp_ret ?_
        refine p_br ?_
        refine p_tr ?_
        have hF : F_ModalQuotient ap0 ap1 u = ((0, []), 5) := by unfold F_ModalQuotient; rw [ht94, ht62, ht30]; first | done | rfl
        refine c_retC2 hE107 rfl rfl rfl Try.underlying54 rfl (by kernel_rfl) (St.row (i := 0) hS103 rfl _ (Ext.refl _)) ?_
        exact ⟨none, 0, (by rw [hF]; first | done | rfl), (by rw [hF]; exact OwnS.nilS _ _ _ _), hS103.ext⟩
      ·
        have ht108 := bn_f ht94
        have hE109 := hE93; rw [ht94] at hE109; clear hE93
        refine wp_skip ?_
        refine p_bn ?_
        refine p_tn ?_
        refine c_seq ?_
        refine c_reg ?_
        refine q_step (v := .int .i64 u) hE109 (y_move rfl) rfl rfl rfl ?_; intro a110 hE111; clear hE109
        refine l_step hE111 rfl (l_call (f := 84) (argv := [.int .i64 u]) hE111 (fun _ => cf_countMembers _ _) rfl rfl (c_countMembers u w84) ?_)
        rintro _ _ ⟨rfl, rfl⟩ a114 hE115; clear hE111
        have hcm := count_bd (u := u) (by omega) (by omega)
        have hf5 := fullI5 (n := F_countMembers u) (by omega) (by omega)
        refine q_step (v := .agg #[.int .i64 (F_countMembers u), .slice none 0 0]) hE115 (y_build (vs := #[(0, .int .i64 (F_countMembers u))]) (fun a n hE => by simp only [hE.eval (x := .tmp 26) (v := .int .i64 (F_countMembers u)) rfl, List.map_toArray, List.map_cons, List.map_nil]) (fun _ => by kernel_rfl)) rfl rfl rfl ?_; intro a118 hE119; clear hE115
        refine l_step hE119 rfl (l_alloc (z := .agg #[.int .i64 0, .slice none 0 0]) (cs := #[.int .i64 0, .slice none 0 0]) hS87 hE119 (fun _ => by kernel_rfl) rfl rfl ?_)
        intro b120 w121 hS124 he125 a122 hE123; clear hS87 hE119
        refine l_step hE123 rfl (l_storeS (k := 0) (cs' := #[.int .i64 (F_countMembers u), .slice none 0 0]) hS124 hE123 (by kernel_rfl) rfl rfl (by kernel_rfl) rfl rfl ?_)
        intro w127 hS130 a128 hE129; clear hS124 hE123
        refine c_nil ?_
        have hE132 := hE129.sub (L' := [(1, .int .i64 u), (2, .pointer (some ⟨b2, 0, none⟩)), (4, .pointer (some ⟨b8, 0, none⟩)), (6, .pointer (some ⟨b120, 0, none⟩))]) ⟨rfl, rfl, rfl, rfl, trivial⟩; clear hE129
        refine p_tn ?_
        refine c_seq ?_
        refine c_seq ?_
        refine c_reg ?_
        refine q_step (v := .agg #[.int .i64 (F_countMembers u), .slice none 0 0]) hE132 (y_loadS Try.underlying54 rfl (by kernel_rfl) rfl (St.row (i := 0) hS130 rfl)) rfl rfl rfl ?_; intro a133 hE134; clear hE132
        refine l_step hE134 rfl (l_call (f := 85) (argv := [.agg #[.int .i64 (F_countMembers u), .slice none 0 0]]) hE134 (fun _ => cf_ModalAlgebra_full _ _) rfl rfl (d_ModalAlgebra_full (F_countMembers u) none 0 0 [] w127 (RdS.nilS _ _) (by omega) (by omega)) ?_)
        rintro _ w136 ⟨rfl, he140⟩ a137 hE138; clear hE134
        have hf141 := fullI_bd (n := (F_countMembers u)) (by omega) (by omega)
        have hS139 := St.go hS130 he140; clear hS130
        refine q_step (v := .int .i64 ((fullI (F_countMembers u)) + 1)) hE138 (y_add rfl rfl ⟨(by omega), (by omega)⟩) rfl rfl rfl ?_; intro a142 hE143; clear hE138
        refine q_step (v := .int .i64 0) hE143 (y_move rfl) rfl rfl rfl ?_; intro a144 hE145; clear hE143
        refine c_nil ?_
        have hE146 := hE145.sub (L' := [(1, .int .i64 u), (2, .pointer (some ⟨b2, 0, none⟩)), (4, .pointer (some ⟨b8, 0, none⟩)), (6, .pointer (some ⟨b120, 0, none⟩)), (30, .int .i64 ((fullI (F_countMembers u)) + 1)), (31, .int .i64 0)]) ⟨rfl, rfl, rfl, rfl, rfl, rfl, trivial⟩; clear hE145
        refine p_tn ?_
        have hS147 := St.nils hS139 2 1; clear hS139
        have hS148 := St.nils hS147 2 1; clear hS147
        refine c_cut1 (fun a' w' => ∃ q4_1A_149 : Option Addr, ∃ q4_1C_149 : Nat, (0 ≤ ((F_ModalQuotient_L1 ap0 ap1 u (Int.toNat (((fullI (F_countMembers u)) + 1) - 0) + 1) 0 ([])).1)) ∧ ((((F_ModalQuotient_L1 ap0 ap1 u (Int.toNat (((fullI (F_countMembers u)) + 1) - 0) + 1) 0 ([])).2).length : Int) = ((F_ModalQuotient_L1 ap0 ap1 u (Int.toNat (((fullI (F_countMembers u)) + 1) - 0) + 1) 0 ([])).1)) ∧ ((((F_ModalQuotient_L1 ap0 ap1 u (Int.toNat (((fullI (F_countMembers u)) + 1) - 0) + 1) 0 ([])).2).length : Int) ≤ ((F_ModalQuotient_L1 ap0 ap1 u (Int.toNat (((fullI (F_countMembers u)) + 1) - 0) + 1) 0 ([])).1)) ∧ E a' 55 [(1, .int .i64 u), (2, .pointer (some ⟨b2, 0, none⟩)), (4, .pointer (some ⟨b8, 0, none⟩)), (6, .pointer (some ⟨b120, 0, none⟩)), (30, .int .i64 ((fullI (F_countMembers u)) + 1)), (31, .int .i64 ((F_ModalQuotient_L1 ap0 ap1 u (Int.toNat (((fullI (F_countMembers u)) + 1) - 0) + 1) 0 ([])).1))] ∧ St w w' [.own 2 1 none 0 0 ([]), .own 2 1 q4_1A_149 (((F_ModalQuotient_L1 ap0 ap1 u (Int.toNat (((fullI (F_countMembers u)) + 1) - 0) + 1) 0 ([])).2).length) q4_1C_149 ((F_ModalQuotient_L1 ap0 ap1 u (Int.toNat (((fullI (F_countMembers u)) + 1) - 0) + 1) 0 ([])).2), .blk b120 #[.int .i64 (F_countMembers u), .slice q4_1A_149 (((F_ModalQuotient_L1 ap0 ap1 u (Int.toNat (((fullI (F_countMembers u)) + 1) - 0) + 1) 0 ([])).2).length) q4_1C_149] 54, .blk b8 #[.int .i64 0, .slice none 0 0] 54, .blk b2 #[.int .i64 ap0, .slice ap1A ap1.length ap1C] 54, .rd 1 ap1A ap1.length ap1C ap1]) ?_ ?_
        ·
          refine wp_block ?_
          refine c_loop (fun r a' w' => ∃ t31 : Int, ∃ q4_1 : List Int, ∃ q4_1A : Option Addr, ∃ q4_1C : Nat, F_ModalQuotient_L1 ap0 ap1 u r t31 q4_1 = F_ModalQuotient_L1 ap0 ap1 u (Int.toNat (((fullI (F_countMembers u)) + 1) - 0) + 1) 0 ([]) ∧ Int.toNat (((fullI (F_countMembers u)) + 1) - t31) < r ∧ (0 ≤ t31) ∧ ((q4_1.length : Int) = t31) ∧ ((q4_1.length : Int) ≤ t31) ∧ E a' 55 [(1, .int .i64 u), (2, .pointer (some ⟨b2, 0, none⟩)), (4, .pointer (some ⟨b8, 0, none⟩)), (6, .pointer (some ⟨b120, 0, none⟩)), (30, .int .i64 ((fullI (F_countMembers u)) + 1)), (31, .int .i64 t31)] ∧ St w w' [.own 2 1 none 0 0 ([]), .own 2 1 q4_1A ((q4_1).length) q4_1C q4_1, .blk b120 #[.int .i64 (F_countMembers u), .slice q4_1A ((q4_1).length) q4_1C] 54, .blk b8 #[.int .i64 0, .slice none 0 0] 54, .blk b2 #[.int .i64 ap0, .slice ap1A ap1.length ap1C] 54, .rd 1 ap1A ap1.length ap1C ap1]) (r := (Int.toNat (((fullI (F_countMembers u)) + 1) - 0) + 1)) ?_ ?_
          · exact ⟨0, [], none, 0, rfl, Nat.lt_succ_self _, (by first | omega | (simp only [List.length_replicate, sI_len]; omega) | (simp only [List.length_append, List.length_cons, List.length_nil, sI_len, cond_true, cond_false]; omega) | (simp only [List.length_append, List.length_cons, List.length_nil, sI_len, cond_eq_ite, apply_ite List.length]; split <;> simp only [List.length_append, List.length_cons, List.length_nil, sI_len] <;> omega) | grind), (by first | omega | (simp only [List.length_replicate, sI_len]; omega) | (simp only [List.length_append, List.length_cons, List.length_nil, sI_len, cond_true, cond_false]; omega) | (simp only [List.length_append, List.length_cons, List.length_nil, sI_len, cond_eq_ite, apply_ite List.length]; split <;> simp only [List.length_append, List.length_cons, List.length_nil, sI_len] <;> omega) | grind), (by first | omega | (simp only [List.length_replicate, sI_len]; omega) | (simp only [List.length_append, List.length_cons, List.length_nil, sI_len, cond_true, cond_false]; omega) | (simp only [List.length_append, List.length_cons, List.length_nil, sI_len, cond_eq_ite, apply_ite List.length]; split <;> simp only [List.length_append, List.length_cons, List.length_nil, sI_len] <;> omega) | grind), (hE146.sub (L' := [(1, .int .i64 u), (2, .pointer (some ⟨b2, 0, none⟩)), (4, .pointer (some ⟨b8, 0, none⟩)), (6, .pointer (some ⟨b120, 0, none⟩)), (30, .int .i64 ((fullI (F_countMembers u)) + 1)), (31, .int .i64 0)]) ⟨rfl, rfl, rfl, rfl, rfl, rfl, trivial⟩), (St.pick (Γ' := [.own 2 1 none 0 0 ([]), .own 2 1 none 0 0 ([]), .blk b120 #[.int .i64 (F_countMembers u), .slice none 0 0] 54, .blk b8 #[.int .i64 0, .slice none 0 0] 54, .blk b2 #[.int .i64 ap0, .slice ap1A ap1.length ap1C] 54, .rd 1 ap1A ap1.length ap1C ap1]) hS148 [0, 1, 2, 3, 4, 5] (by decide) rfl)⟩
          ·
            clear hE146 hS148
            rintro r159 a150 w151 ⟨t31, q4_1, q4_1A, q4_1C, hT154, hr155, hi156, hi157, hi158, hE152, hS153⟩
            obtain ⟨r159, rfl⟩ : ∃ r', r159 = r' + 1 := ⟨r159 - 1, by omega⟩
            refine c_seq ?_
            refine c_reg ?_
            refine q_step (v := .bool (decide (t31 < ((fullI (F_countMembers u)) + 1)))) hE152 (y_lss rfl rfl) rfl rfl rfl ?_; intro a160 hE161; clear hE152
            refine c_nil ?_
            have hE162 := hE161.sub (L' := [(1, .int .i64 u), (2, .pointer (some ⟨b2, 0, none⟩)), (4, .pointer (some ⟨b8, 0, none⟩)), (6, .pointer (some ⟨b120, 0, none⟩)), (30, .int .i64 ((fullI (F_countMembers u)) + 1)), (31, .int .i64 t31), (32, .bool (decide (t31 < ((fullI (F_countMembers u)) + 1))))]) ⟨rfl, rfl, rfl, rfl, rfl, rfl, rfl, trivial⟩; clear hE161
            refine p_tn ?_
            refine c_seq ?_
            refine c_cond hE162 rfl (fun ht163 => ?_) (fun ht163 => ?_)
            ·
              have hp164 := of_decide_eq_true ht163
              have hE165 := hE162; rw [ht163] at hE165; clear hE162
              have hai := anI_le (m := fullI ap0) (k := u) (by omega) (by omega) (by omega) (by omega)
              have hsp := spread_bd (x := t31) (u := u) (n := ap0) (by omega) (by omega) (by omega) (by omega)
              have hor := or_full (n := ap0) (a := F_spread t31 u) (b := anI (fullI ap0) u) (by omega) (by omega) (by omega) (by omega) (by omega) (by omega)
              refine wp_skip ?_
              refine p_tn ?_
              refine c_seq ?_
              refine wp_block ?_
              refine c_seq ?_
              refine c_reg ?_
              refine q_step (v := .int .i64 t31) hE165 (y_move rfl) rfl rfl rfl ?_; intro a166 hE167; clear hE165
              refine q_step (v := .int .i64 t31) hE167 (y_assign rfl) rfl rfl rfl ?_; intro a168 hE169; clear hE167
              refine c_nil ?_
              have hE170 := hE169.sub (L' := [(1, .int .i64 u), (2, .pointer (some ⟨b2, 0, none⟩)), (4, .pointer (some ⟨b8, 0, none⟩)), (6, .pointer (some ⟨b120, 0, none⟩)), (7, .int .i64 t31), (30, .int .i64 ((fullI (F_countMembers u)) + 1)), (31, .int .i64 t31)]) ⟨rfl, rfl, rfl, rfl, rfl, rfl, rfl, trivial⟩; clear hE169
              refine p_tn ?_
              refine d_start (fun w' => w'.cell? ⟨b120, 1, none⟩ = some (.slice q4_1A ((q4_1).length) q4_1C) ∧ w'.cell? ⟨b2, 1, none⟩ = some (.slice ap1A ap1.length ap1C) ∧ w'.heap[b2]? = some (.cells #[.int .i64 ap0, .slice ap1A ap1.length ap1C] 54 (0, 0)) ∧ w'.cell? (adr ap1A (Int.toNat (orI (F_spread t31 u) (anI (fullI ap0) u)))) = some (.int .i64 (gI ap1 (orI (F_spread t31 u) (anI (fullI ap0) u)))) ∧ True) [1, 3, 7, 13] 20 (by kernel_rfl) rfl ?_
              intro w171 he172; have hS173 := St.go hS153 he172; clear hS153
              refine d_pure (v := .pointer (some ⟨b120, 1, none⟩)) 0 rfl hE170 (y_field rfl (fun _ => by kernel_rfl)) rfl (by kernel_rfl) (by kernel_rfl) (by kernel_rfl) rfl rfl (fun _ _ _ h => h) ?_; intro a174 hE175; clear hE170
              refine d_take (v := .slice q4_1A ((q4_1).length) q4_1C) 1 rfl hE175 ⟨(St.cell (i := 2) hS173 rfl rfl _ (Ext.refl _)), (St.cell (i := 4) hS173 rfl rfl _ (Ext.refl _)), (St.row (i := 4) hS173 rfl _ (Ext.refl _)), (RdS.elt (St.rdR (i := 5) hS173 rfl) (by omega) (by omega) _ (Ext.refl _)), trivial⟩ (y_load (fun _ => by kernel_rfl) rfl (fun _ h => h.1)) rfl rfl (by kernel_rfl) (by kernel_rfl) (by kernel_rfl) rfl rfl (fun _ _ _ h => h) ?_; intro a176 hE177; clear hE175
              refine d_pure (v := .pointer (some ⟨b2, 1, none⟩)) 2 rfl hE177 (y_field rfl (fun _ => by kernel_rfl)) rfl (by kernel_rfl) (by kernel_rfl) (by kernel_rfl) rfl rfl (fun _ _ _ h => h) ?_; intro a178 hE179; clear hE177
              refine d_take (v := .slice ap1A ap1.length ap1C) 3 rfl hE179 ⟨(St.cell (i := 2) hS173 rfl rfl _ (Ext.refl _)), (St.cell (i := 4) hS173 rfl rfl _ (Ext.refl _)), (St.row (i := 4) hS173 rfl _ (Ext.refl _)), (RdS.elt (St.rdR (i := 5) hS173 rfl) (by omega) (by omega) _ (Ext.refl _)), trivial⟩ (y_load (fun _ => by kernel_rfl) rfl (fun _ h => h.2.1)) rfl rfl (by kernel_rfl) (by kernel_rfl) (by kernel_rfl) rfl rfl (fun _ _ _ h => h) ?_; intro a180 hE181; clear hE179
              refine d_pure (v := .int .i64 t31) 4 rfl hE181 (y_move rfl) rfl (by kernel_rfl) (by kernel_rfl) (by kernel_rfl) rfl rfl (fun _ _ _ h => h) ?_; intro a182 hE183; clear hE181
              refine d_pure (v := .int .i64 u) 5 rfl hE183 (y_move rfl) rfl (by kernel_rfl) (by kernel_rfl) (by kernel_rfl) rfl rfl (fun _ _ _ h => h) ?_; intro a184 hE185; clear hE183
              refine d_take (v := .agg #[.int .i64 ap0, .slice ap1A ap1.length ap1C]) 7 rfl hE185 ⟨(St.cell (i := 2) hS173 rfl rfl _ (Ext.refl _)), (St.cell (i := 4) hS173 rfl rfl _ (Ext.refl _)), (St.row (i := 4) hS173 rfl _ (Ext.refl _)), (RdS.elt (St.rdR (i := 5) hS173 rfl) (by omega) (by omega) _ (Ext.refl _)), trivial⟩ (y_loadS Try.underlying54 rfl (by kernel_rfl) rfl (fun _ h => h.2.2.1)) rfl rfl (by kernel_rfl) (by kernel_rfl) (by kernel_rfl) rfl rfl (fun _ _ _ h => h) ?_; intro a186 hE187; clear hE185
              refine d_pure (v := .int .i64 u) 9 rfl hE187 (y_move rfl) rfl (by kernel_rfl) (by kernel_rfl) (by kernel_rfl) rfl rfl (fun _ _ _ h => h) ?_; intro a188 hE189; clear hE187
              refine d_pure (v := .int .i64 u) 14 rfl hE189 (y_move rfl) rfl (by kernel_rfl) (by kernel_rfl) (by kernel_rfl) rfl rfl (fun _ _ _ h => h) ?_; intro a190 hE191; clear hE189
              refine d_only 6 (by kernel_rfl) rfl hE191 rfl (l_call (f := 87) (argv := [.int .i64 t31, .int .i64 u]) hE191 (fun _ => cf_spread _ _) rfl rfl (c_spread t31 u w171 (by omega) (by omega)) ?_)
              rintro _ w193 ⟨rfl, he197⟩ a194 hE195; clear hE191
              have hS196 := St.go hS173 he197; clear hS173
              refine ⟨fun _ _ => ⟨(St.cell (i := 2) hS196 rfl rfl _ (Ext.refl _)), (St.cell (i := 4) hS196 rfl rfl _ (Ext.refl _)), (St.row (i := 4) hS196 rfl _ (Ext.refl _)), (RdS.elt (St.rdR (i := 5) hS196 rfl) (by omega) (by omega) _ (Ext.refl _)), trivial⟩, ?_⟩
              refine d_only 8 (by kernel_rfl) rfl hE195 rfl (l_call (f := 85) (argv := [.agg #[.int .i64 ap0, .slice ap1A ap1.length ap1C]]) hE195 (fun _ => cf_ModalAlgebra_full _ _) rfl rfl (d_ModalAlgebra_full ap0 ap1A ap1.length ap1C ap1 w193 (St.rdR (i := 5) hS196 rfl) (by omega) (by omega)) ?_)
              rintro _ w199 ⟨rfl, he203⟩ a200 hE201; clear hE195
              have hf204 := fullI_bd (n := ap0) (by omega) (by omega)
              have hS202 := St.go hS196 he203; clear hS196
              refine ⟨fun _ _ => ⟨(St.cell (i := 2) hS202 rfl rfl _ (Ext.refl _)), (St.cell (i := 4) hS202 rfl rfl _ (Ext.refl _)), (St.row (i := 4) hS202 rfl _ (Ext.refl _)), (RdS.elt (St.rdR (i := 5) hS202 rfl) (by omega) (by omega) _ (Ext.refl _)), trivial⟩, ?_⟩
              refine d_pure (v := .int .i64 (anI (fullI ap0) u)) 10 rfl hE201 (y_andNot rfl rfl) rfl (by kernel_rfl) (by kernel_rfl) (by kernel_rfl) rfl rfl (fun _ _ _ h => h) ?_; intro a205 hE206; clear hE201
              refine d_pure (v := .int .i64 (orI (F_spread t31 u) (anI (fullI ap0) u))) 11 rfl hE206 (y_or rfl rfl) rfl (by kernel_rfl) (by kernel_rfl) (by kernel_rfl) rfl rfl (fun _ _ _ h => h) ?_; intro a207 hE208; clear hE206
              refine d_pure (v := .pointer (some (adr ap1A (Int.toNat (orI (F_spread t31 u) (anI (fullI ap0) u)))))) 12 rfl hE208 (y_idx (by kernel_rfl) (fun _ => by kernel_rfl) rfl rfl (RdS.isS (m := orI (F_spread t31 u) (anI (fullI ap0) u)) (St.rdR (i := 5) hS202 rfl) (by omega) (by omega)) (by omega) (by omega) (Nat.mul_one _).symm) rfl (by kernel_rfl) (by kernel_rfl) (by kernel_rfl) rfl rfl (fun _ _ _ h => h) ?_; intro a209 hE210; clear hE208
              refine d_take (v := .int .i64 (gI ap1 (orI (F_spread t31 u) (anI (fullI ap0) u)))) 13 rfl hE210 ⟨(St.cell (i := 2) hS202 rfl rfl _ (Ext.refl _)), (St.cell (i := 4) hS202 rfl rfl _ (Ext.refl _)), (St.row (i := 4) hS202 rfl _ (Ext.refl _)), (RdS.elt (St.rdR (i := 5) hS202 rfl) (by omega) (by omega) _ (Ext.refl _)), trivial⟩ (y_load (fun _ => by kernel_rfl) rfl (fun _ h => h.2.2.2.1)) rfl rfl (by kernel_rfl) (by kernel_rfl) (by kernel_rfl) rfl rfl (fun _ _ _ h => h) ?_; intro a211 hE212; clear hE210
              refine d_only 15 (by kernel_rfl) rfl hE212 rfl (l_call (f := 86) (argv := [.int .i64 (gI ap1 (orI (F_spread t31 u) (anI (fullI ap0) u))), .int .i64 u]) hE212 (fun _ => cf_squeeze _ _) rfl rfl (c_squeeze (gI ap1 (orI (F_spread t31 u) (anI (fullI ap0) u))) u w199 (by omega) (by omega)) ?_)
              rintro _ w214 ⟨rfl, he218⟩ a215 hE216; clear hE212
              have hS217 := St.go hS202 he218; clear hS202
              refine ⟨fun _ _ => ⟨(St.cell (i := 2) hS217 rfl rfl _ (Ext.refl _)), (St.cell (i := 4) hS217 rfl rfl _ (Ext.refl _)), (St.row (i := 4) hS217 rfl _ (Ext.refl _)), (RdS.elt (St.rdR (i := 5) hS217 rfl) (by omega) (by omega) _ (Ext.refl _)), trivial⟩, ?_⟩
              refine d_only 16 (by kernel_rfl) rfl hE216 rfl (l_lit (e := 2) (s := 1) (xs := [F_squeeze (gI ap1 (orI (F_spread t31 u) (anI (fullI ap0) u))) u]) (vs := [.int .i64 (F_squeeze (gI ap1 (orI (F_spread t31 u) (anI (fullI ap0) u))) u)]) hS217 hE216 rfl (fun _ => by kernel_rfl) rfl rfl rfl ?_)
              intro b219 w220 hS223 he224 a221 hE222; clear hS217 hE216
              refine ⟨fun _ _ => ⟨(St.cell (i := 3) hS223 rfl rfl _ (Ext.refl _)), (St.cell (i := 5) hS223 rfl rfl _ (Ext.refl _)), (St.row (i := 5) hS223 rfl _ (Ext.refl _)), (RdS.elt (St.rdR (i := 6) hS223 rfl) (by omega) (by omega) _ (Ext.refl _)), trivial⟩, ?_⟩
              obtain ⟨_, hi1, hi2, hi3, hi4⟩ := info_parts (show (Try.prog.info? 2).map (fun i => (i.zero, i.size, i.bytes)) = some (some (.int .i64 0), 1, 8) by kernel_rfl)
              refine d_only 17 (by kernel_rfl) rfl hE222 rfl (l_append (k := 2) (n' := (q4_1 ++ ([F_squeeze (gI ap1 (orI (F_spread t31 u) (anI (fullI ap0) u))) u])).length) hS223 hE222 (by kernel_rfl) hi1 hi2 hi3 rfl (by decide) (by rw [hi4]; decide) rfl rfl rfl (St.rdO (i := 0) hS223 rfl) (by first | omega | (simp only [List.length_append, List.length_cons, List.length_nil]; omega)) (by have h1 := (St.rdO (i := 2) hS223 rfl).len1; have h2 := (St.rdO (i := 0) hS223 rfl).len1; rw [List.length_append, h1, h2]) rfl ?_)
              intro b225 c231 w226 hS229 a227 hE228; clear hS223 hE222 hi1 hi2 hi3 hi4
              refine ⟨fun _ _ => ⟨(St.cell (i := 3) hS229 rfl rfl _ (Ext.refl _)), (St.cell (i := 5) hS229 rfl rfl _ (Ext.refl _)), (St.row (i := 5) hS229 rfl _ (Ext.refl _)), (RdS.elt (St.rdR (i := 6) hS229 rfl) (by omega) (by omega) _ (Ext.refl _)), trivial⟩, ?_⟩
              refine d_pure (v := .pointer (some ⟨b120, 1, none⟩)) 18 rfl hE228 (y_field rfl (fun _ => by kernel_rfl)) rfl (by kernel_rfl) (by kernel_rfl) (by kernel_rfl) rfl rfl (fun _ _ _ h => h) ?_; intro a232 hE233; clear hE228
              refine d_only 19 (by kernel_rfl) rfl hE233 rfl (l_storeB (k := 3) (cs' := #[.int .i64 (F_countMembers u), .slice b225 ((q4_1 ++ ([F_squeeze (gI ap1 (orI (F_spread t31 u) (anI (fullI ap0) u))) u])).length) c231]) hS229 hE233 (fun _ => by kernel_rfl) rfl rfl rfl rfl rfl rfl rfl ?_)
              intro w235 hS238 a236 hE237; clear hS229 hE233
              refine ⟨fun h => Bool.noConfusion (h.symm.trans (show exm _ _ _ = true by kernel_rfl)), ?_⟩
              refine d_done (by kernel_rfl) ?_
              have hE240 := hE237.sub (L' := [(1, .int .i64 u), (2, .pointer (some ⟨b2, 0, none⟩)), (4, .pointer (some ⟨b8, 0, none⟩)), (6, .pointer (some ⟨b120, 0, none⟩)), (30, .int .i64 ((fullI (F_countMembers u)) + 1)), (31, .int .i64 t31)]) ⟨rfl, rfl, rfl, rfl, rfl, rfl, trivial⟩; clear hE237
              refine p_bn ?_
              refine p_tn ?_
              refine c_reg ?_
              refine q_step (v := .int .i64 (t31 + 1)) hE240 (y_add rfl rfl ⟨(by omega), (by omega)⟩) rfl rfl rfl ?_; intro a241 hE242; clear hE240
              refine q_step (v := .int .i64 (t31 + 1)) hE242 (y_move rfl) rfl rfl rfl ?_; intro a243 hE244; clear hE242
              refine c_nil ?_
              have hE245 := hE244.sub (L' := [(1, .int .i64 u), (2, .pointer (some ⟨b2, 0, none⟩)), (4, .pointer (some ⟨b8, 0, none⟩)), (6, .pointer (some ⟨b120, 0, none⟩)), (30, .int .i64 ((fullI (F_countMembers u)) + 1)), (31, .int .i64 (t31 + 1))]) ⟨rfl, rfl, rfl, rfl, rfl, rfl, trivial⟩; clear hE244
              refine p_tn ⟨r159, Nat.lt_succ_self _, t31 + 1, q4_1 ++ ([F_squeeze (gI ap1 (orI (F_spread t31 u) (anI (fullI ap0) u))) u]), b225, c231, (hT154.symm.trans (show F_ModalQuotient_L1b ap0 ap1 u (F_ModalQuotient_L1 ap0 ap1 u r159) t31 q4_1 = F_ModalQuotient_L1 ap0 ap1 u r159 (t31 + 1) (q4_1 ++ ([F_squeeze (gI ap1 (orI (F_spread t31 u) (anI (fullI ap0) u))) u])) by unfold F_ModalQuotient_L1b; rw [ht163]; first | done | rfl)).symm, (by omega), (by first | omega | (simp only [List.length_replicate, sI_len]; omega) | (simp only [List.length_append, List.length_cons, List.length_nil, sI_len, cond_true, cond_false]; omega) | (simp only [List.length_append, List.length_cons, List.length_nil, sI_len, cond_eq_ite, apply_ite List.length]; split <;> simp only [List.length_append, List.length_cons, List.length_nil, sI_len] <;> omega) | grind), (by first | omega | (simp only [List.length_replicate, sI_len]; omega) | (simp only [List.length_append, List.length_cons, List.length_nil, sI_len, cond_true, cond_false]; omega) | (simp only [List.length_append, List.length_cons, List.length_nil, sI_len, cond_eq_ite, apply_ite List.length]; split <;> simp only [List.length_append, List.length_cons, List.length_nil, sI_len] <;> omega) | grind), (by first | omega | (simp only [List.length_replicate, sI_len]; omega) | (simp only [List.length_append, List.length_cons, List.length_nil, sI_len, cond_true, cond_false]; omega) | (simp only [List.length_append, List.length_cons, List.length_nil, sI_len, cond_eq_ite, apply_ite List.length]; split <;> simp only [List.length_append, List.length_cons, List.length_nil, sI_len] <;> omega) | grind), (hE245.sub (L' := [(1, .int .i64 u), (2, .pointer (some ⟨b2, 0, none⟩)), (4, .pointer (some ⟨b8, 0, none⟩)), (6, .pointer (some ⟨b120, 0, none⟩)), (30, .int .i64 ((fullI (F_countMembers u)) + 1)), (31, .int .i64 (t31 + 1))]) ⟨rfl, rfl, rfl, rfl, rfl, rfl, trivial⟩), (St.pick (Γ' := [.own 2 1 none 0 0 ([]), .own 2 1 b225 ((q4_1 ++ ([F_squeeze (gI ap1 (orI (F_spread t31 u) (anI (fullI ap0) u))) u])).length) c231 (q4_1 ++ ([F_squeeze (gI ap1 (orI (F_spread t31 u) (anI (fullI ap0) u))) u])), .blk b120 #[.int .i64 (F_countMembers u), .slice b225 ((q4_1 ++ ([F_squeeze (gI ap1 (orI (F_spread t31 u) (anI (fullI ap0) u))) u])).length) c231] 54, .blk b8 #[.int .i64 0, .slice none 0 0] 54, .blk b2 #[.int .i64 ap0, .slice ap1A ap1.length ap1C] 54, .rd 1 ap1A ap1.length ap1C ap1]) hS238 [1, 2, 3, 4, 5, 6] (by decide) rfl)⟩
            ·
              have hp246 := of_decide_eq_false ht163
              have hE247 := hE162; rw [ht163] at hE247; clear hE162
              refine wp_exit ?_
              refine p_te ?_
              have hX248 : F_ModalQuotient_L1 ap0 ap1 u (Int.toNat (((fullI (F_countMembers u)) + 1) - 0) + 1) 0 ([]) = (t31, q4_1) := hT154.symm.trans (show F_ModalQuotient_L1b ap0 ap1 u (F_ModalQuotient_L1 ap0 ap1 u r159) t31 q4_1 = (t31, q4_1) by unfold F_ModalQuotient_L1b; rw [ht163]; first | done | rfl)
              refine p_te (p_be (p_tn ?_))
              exact ⟨q4_1A, q4_1C, (by rw [hX248]; exact (show 0 ≤ t31 from (by first | omega | (simp only [List.length_replicate, sI_len]; omega) | (simp only [List.length_append, List.length_cons, List.length_nil, sI_len, cond_true, cond_false]; omega) | (simp only [List.length_append, List.length_cons, List.length_nil, sI_len, cond_eq_ite, apply_ite List.length]; split <;> simp only [List.length_append, List.length_cons, List.length_nil, sI_len] <;> omega) | grind))), (by rw [hX248]; exact (show (q4_1.length : Int) = t31 from (by first | omega | (simp only [List.length_replicate, sI_len]; omega) | (simp only [List.length_append, List.length_cons, List.length_nil, sI_len, cond_true, cond_false]; omega) | (simp only [List.length_append, List.length_cons, List.length_nil, sI_len, cond_eq_ite, apply_ite List.length]; split <;> simp only [List.length_append, List.length_cons, List.length_nil, sI_len] <;> omega) | grind))), (by rw [hX248]; exact (show (q4_1.length : Int) ≤ t31 from (by first | omega | (simp only [List.length_replicate, sI_len]; omega) | (simp only [List.length_append, List.length_cons, List.length_nil, sI_len, cond_true, cond_false]; omega) | (simp only [List.length_append, List.length_cons, List.length_nil, sI_len, cond_eq_ite, apply_ite List.length]; split <;> simp only [List.length_append, List.length_cons, List.length_nil, sI_len] <;> omega) | grind))), (by rw [hX248]; exact (hE247.sub (L' := [(1, .int .i64 u), (2, .pointer (some ⟨b2, 0, none⟩)), (4, .pointer (some ⟨b8, 0, none⟩)), (6, .pointer (some ⟨b120, 0, none⟩)), (30, .int .i64 ((fullI (F_countMembers u)) + 1)), (31, .int .i64 t31)]) ⟨rfl, rfl, rfl, rfl, rfl, rfl, trivial⟩)), (by rw [hX248]; exact (St.pick (Γ' := [.own 2 1 none 0 0 ([]), .own 2 1 q4_1A ((q4_1).length) q4_1C q4_1, .blk b120 #[.int .i64 (F_countMembers u), .slice q4_1A ((q4_1).length) q4_1C] 54, .blk b8 #[.int .i64 0, .slice none 0 0] 54, .blk b2 #[.int .i64 ap0, .slice ap1A ap1.length ap1C] 54, .rd 1 ap1A ap1.length ap1C ap1]) hS153 [0, 1, 2, 3, 4, 5] (by decide) rfl))⟩
        ·
          rintro a249 w250 ⟨q4_1A_149, q4_1C_149, hi254, hi255, hi256, hE251, hS252⟩; clear hE146 hS148
          refine p_tn ?_
          refine c_seq ?_
          refine c_reg ?_
          refine q_step (v := .agg #[.int .i64 (F_countMembers u), .slice q4_1A_149 (((F_ModalQuotient_L1 ap0 ap1 u (Int.toNat (((fullI (F_countMembers u)) + 1) - 0) + 1) 0 ([])).2).length) q4_1C_149]) hE251 (y_loadS Try.underlying54 rfl (by kernel_rfl) rfl (St.row (i := 2) hS252 rfl)) rfl rfl rfl ?_; intro a257 hE258; clear hE251
          refine l_step hE258 rfl (l_storeS (k := 3) (cs' := #[.int .i64 (F_countMembers u), .slice q4_1A_149 (((F_ModalQuotient_L1 ap0 ap1 u (Int.toNat (((fullI (F_countMembers u)) + 1) - 0) + 1) 0 ([])).2).length) q4_1C_149]) hS252 hE258 (by kernel_rfl) rfl rfl (by kernel_rfl) rfl rfl ?_)
          intro w260 hS263 a261 hE262; clear hS252 hE258
          refine q_step (v := .int .i64 0) hE262 (y_assign rfl) rfl rfl rfl ?_; intro a265 hE266; clear hE262
          refine c_nil ?_
          have hE267 := hE266.sub (L' := [(4, .pointer (some ⟨b8, 0, none⟩)), (5, .int .i64 0)]) ⟨rfl, rfl, trivial⟩; clear hE266
          refine p_tn ?_
          refine wp_ret ?_
          have hF : F_ModalQuotient ap0 ap1 u = ((F_countMembers u, (F_ModalQuotient_L1 ap0 ap1 u (Int.toNat (((fullI (F_countMembers u)) + 1) - 0) + 1) 0 ([])).2), 0) := by unfold F_ModalQuotient; rw [ht94, ht62, ht30]; first | done | rfl
          refine c_retC2 hE267 rfl rfl rfl Try.underlying54 rfl (by kernel_rfl) (St.row (i := 3) hS263 rfl _ (Ext.refl _)) ?_
          exact ⟨q4_1A_149, q4_1C_149, (by rw [hF]; first | done | rfl), (by rw [hF]; exact hS263.ok 1 _ rfl), hS263.ext⟩

theorem squeeze_and {n : Nat} (hn : n ≤ 62) {B u : Int} (hB : Mk n B) (hu : Mk n u) : F_l05Squeeze (F_membersOf u) (andI B u) = F_l05Squeeze (F_membersOf u) B := by
  unfold F_l05Squeeze
  rw [rangeLoop0 ((F_membersOf u).length : Int) (by omega) (fun o k => bif F_l01Bit (andI B u) (gI (F_membersOf u) k) then orI o (powI k) else o) (F_l05Squeeze_L1 (F_membersOf u) (andI B u)) (fun _ _ _ => rfl),
    rangeLoop0 ((F_membersOf u).length : Int) (by omega) (fun o k => bif F_l01Bit B (gI (F_membersOf u) k) then orI o (powI k) else o) (F_l05Squeeze_L1 (F_membersOf u) B) (fun _ _ _ => rfl), Int.toNat_natCast]
  apply foldl_ext'
  intro i hi o
  have hi := List.mem_range.1 hi
  have hlt := members_lt hn hu.1 hu.2 (i : Int) (by omega) (by omega)
  obtain ⟨j, hjn, hu1, hje⟩ : ∃ j : Nat, j < n ∧ F_has u (j : Int) = true ∧ gI (F_membersOf u) (i : Int) = (j : Int) := by
    have hmem : gI (F_membersOf u) (i : Int) ∈ F_membersOf u := gI_mem (by omega) (by omega)
    generalize gI (F_membersOf u) (i : Int) = y at hmem
    rw [members_eq hn hu.1 hu.2, List.mem_map] at hmem
    obtain ⟨j, hj, hje⟩ := hmem
    exact ⟨j, List.mem_range.1 (List.mem_filter.1 hj).1, (List.mem_filter.1 hj).2, hje.symm⟩
  rw [hje]
  obtain ⟨a1, a2, a3⟩ := andI_testBit hB.1 (by have := hB.sm hn; omega) hu.1 (by have := hu.sm hn; omega)
  have hA : Mk n (andI B u) := Mk.ofBits a1 fun k hk => by
    have := a3 k
    unfold tb at hk
    rw [hk] at this
    exact tb_lt hB (Bool.and_eq_true _ _ ▸ this.symm : tb B k = true ∧ tb u k = true).1
  have e : F_l01Bit (andI B u) (j : Int) = F_l01Bit B (j : Int) := by
    show F_has (andI B u) (j : Int) = F_has B (j : Int)
    rw [tb_has hn hA (by omega), tb_has hn hB (by omega)]
    rw [tb_has hn hu (by omega)] at hu1
    have := a3 j
    unfold tb at hu1 ⊢
    rw [this, hu1, Bool.and_true]
  rw [e]
theorem MQ_set {ap0 u x : Int} (h0 : 0 ≤ ap0) (h5 : ap0 ≤ 5) (hu : 0 ≤ u) (hm : u ≤ fullI ap0) : orI (F_spread x u) (anI (fullI ap0) u) = (F_s_ModalQuotient_L2 u x (Int.toNat (((F_membersOf u).length : Int) - 0) + 1) (anI (fullI ap0) u) 0).1 := by
  have hf := fullI5 h0 h5
  have e : ((ap0.toNat : Nat) : Int) = ap0 := by omega
  have hn : ap0.toNat ≤ 62 := by omega
  have hU : Mk ap0.toNat u := ⟨hu, by rw [e]; exact hm⟩
  have hai := anI_le (m := fullI ap0) (k := u) (by omega) (by omega) (by omega) (by omega)
  have hA : Mk ap0.toNat (anI (fullI ap0) u) := ⟨hai.1, by rw [e]; exact hai.2⟩
  obtain ⟨s1, s2⟩ := spread_bits (x := x) hn hU.1 hU.2
  obtain ⟨o1, o2⟩ := Mk.or hn s1 hA
  have hl : F_l01List u = F_membersOf u := l01List_eq hu (by omega)
  rw [rangeLoop0 ((F_membersOf u).length : Int) (by omega) (fun o i => bif F_l01Bit x i then orI o (powI (gI (F_membersOf u) i)) else o) (F_s_ModalQuotient_L2 u x) (fun r o t => by
    show F_s_ModalQuotient_L2b u x _ o t = _
    unfold F_s_ModalQuotient_L2b; rw [hl]), Int.toNat_natCast]
  have key : ∀ i : Nat, i < (F_membersOf u).length → ∃ t : Nat, t < ap0.toNat ∧ gI (F_membersOf u) (i : Int) = (t : Int) := fun i hi => by
    have := members_lt hn hU.1 hU.2 (i : Int) (by omega) (by omega)
    exact ⟨(gI (F_membersOf u) (i : Int)).toNat, by omega, by omega⟩
  obtain ⟨f1, f2⟩ := fold_or hn (fun i : Nat => F_l01Bit x (i : Int)) (fun i : Nat => powI (gI (F_membersOf u) (i : Int))) (List.range (F_membersOf u).length) (anI (fullI ap0) u) hA (fun i hi _ => by
    obtain ⟨t, ht, e1⟩ := key i (List.mem_range.1 hi)
    rw [e1]; exact Mk.pow ht)
  apply tb_ext o1.1 f1.1
  intro j
  rw [o2 j, Bool.eq_iff_iff, Bool.or_eq_true, s2 j, f2 j]
  constructor
  · rintro (⟨i, hi, h3, h4⟩ | h)
    · exact .inr ⟨i, List.mem_range.2 hi, h3, by rw [h4, tb_pow]; simp⟩
    · exact .inl h
  · rintro (h | ⟨i, hi, h3, h4⟩)
    · exact .inr h
    · obtain ⟨t, ht, e1⟩ := key i (List.mem_range.1 hi)
      rw [e1, tb_pow] at h4
      exact .inl ⟨i, List.mem_range.1 hi, h3, by rw [e1, of_decide_eq_true h4]⟩
theorem ModalQuotient_eq (ap0 : Int) (ap1 : List Int) (u : Int) : F_ModalQuotient ap0 ap1 u = F_s_ModalQuotient ap0 ap1 u := by
  unfold F_ModalQuotient F_s_ModalQuotient
  rw [isModal_eq]
  cases h : F_l15Is ap0 ap1
  · rw [Bool.not_false, cond_true, cond_true]
  · have ha := l15Is_t h
    rw [show F_ModalAlgebra_isElement ap0 ap1 u = F_l01In u 0 (fullI ap0) from rfl, show F_ModalAlgebra_isOpen ap0 ap1 u = decide (anI u (gI ap1 u) = 0) from rfl]
    cases hu : F_l01In u 0 (fullI ap0)
    · simp only [Bool.not_true, Bool.not_false, cond_false, cond_true]
    · have hu' := F_l01In_t hu
      simp only [Bool.not_true, cond_false]
      cases (!decide (anI u (gI ap1 u) = 0))
      · simp only [cond_false]
        have hl : F_l01List u = F_membersOf u := l01List_eq hu'.1 (by omega)
        have hc := count_bd (u := u) hu'.1 (by omega)
        have e : ((ap0.toNat : Nat) : Int) = ap0 := by omega
        have hU : Mk ap0.toNat u := ⟨hu'.1, by rw [e]; exact hu'.2⟩
        have hf5 := fullI5 (n := ((F_membersOf u).length : Int)) (by omega) (by omega)
        have hai := anI_le (m := fullI ap0) (k := u) (by omega) (by omega) (by omega) (by omega)
        rw [hc.1, hl, mapLoopR0 (fullI ((F_membersOf u).length : Int) + 1) (by omega) (fun x => F_squeeze (gI ap1 (orI (F_spread x u) (anI (fullI ap0) u))) u) (F_ModalQuotient_L1 ap0 ap1 u) (fun r t o => by
            show F_ModalQuotient_L1b ap0 ap1 u _ t o = _
            unfold F_ModalQuotient_L1b; rw [hc.1]),
          mapLoopR0 (fullI ((F_membersOf u).length : Int) + 1) (by omega) (fun x => F_squeeze (gI ap1 (orI (F_spread x u) (anI (fullI ap0) u))) u) (F_s_ModalQuotient_L1 ap0 ap1 u) (fun r t o => by
            show F_s_ModalQuotient_L1b ap0 ap1 u _ t o = _
            unfold F_s_ModalQuotient_L1b
            have hor := or_full (n := ap0) (a := F_spread t u) (b := anI (fullI ap0) u) (by omega) (by omega) (spread_bd (by omega) (by omega) hu'.1 hu'.2).1 (spread_bd (by omega) (by omega) hu'.1 hu'.2).2 hai.1 hai.2
            have hb := ha.2.2 (orI (F_spread t u) (anI (fullI ap0) u)) hor.1 (by omega)
            rw [hl, ← MQ_set (by omega) (by omega) hu'.1 hu'.2, squeeze_and (n := ap0.toNat) (by omega) ⟨hb.1, by rw [e]; exact hb.2⟩ hU, ← squeeze_eq hu'.1 (by omega), show decide (t ≤ fullI ((F_membersOf u).length : Int)) = decide (t < fullI ((F_membersOf u).length : Int) + 1) from decide_eq_decide.2 (by omega)])]
      · simp only [cond_true]
theorem ModalQuotient_len (ap0 : Int) (ap1 : List Int) (u : Int) : (F_ModalQuotient ap0 ap1 u).1.2.length ≤ 40 := by
  unfold F_ModalQuotient
  cases h : F_isModalAlgebra ap0 ap1
  · simp
  · cases hu : F_ModalAlgebra_isElement ap0 ap1 u
    · simp
    · cases F_ModalAlgebra_isOpen ap0 ap1 u
      · simp
      · have ha := isModal_t h
        have hu' := isElement_t hu
        have hc := count_bd (u := u) hu'.1 (by omega)
        have hf5 := fullI5 (n := F_countMembers u) (by omega) (by omega)
        show (F_ModalQuotient_L1 ap0 ap1 u (Int.toNat (((fullI (F_countMembers u)) + 1) - 0) + 1) 0 ([])).2.length ≤ 40
        rw [mapLoopR0 (fullI (F_countMembers u) + 1) (by omega) (fun x => F_squeeze (gI ap1 (orI (F_spread x u) (anI (fullI ap0) u))) u) (F_ModalQuotient_L1 ap0 ap1 u) (fun _ _ _ => rfl), List.length_map, List.length_range]
        omega

end Go.Proofs.Ytejfjcjdilbkdaa
