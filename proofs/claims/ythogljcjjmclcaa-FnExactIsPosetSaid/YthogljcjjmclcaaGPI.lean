/- GPI: models and contracts, printed by wip/gen/gen.py -/
import Derived.Test.YthogljcjjmclcaaGPO
set_option linter.unusedVariables false
set_option linter.unusedSimpArgs false
namespace Go.Proofs.Ythogljcjjmclcaa
open Go.RowKit

def F_s_IsPoset (pp0 : Int) (pp1 : List Int) : Bool :=
  F_l16Is pp0 pp1
theorem cf_s_IsPoset (args : Array Value) (w : World) : (callFunc 15 args).run Try.prog w = .ok (.enter 15 args) w := by kernel_rfl
set_option maxRecDepth 100000 in
theorem c_s_IsPoset (pp0 : Int) (pp1A : Option Addr) (pp1N pp1C : Nat) (pp1 : List Int) (w : World) (pp1R : RdS w 1 pp1A pp1N pp1C pp1) :
    Calls Try.prog 15 #[.agg #[.int .i64 pp0, .slice pp1A pp1N pp1C]] w (Ret fun v w' => v = .bool (F_s_IsPoset pp0 pp1) ∧ Ext w w') := by
  obtain rfl : pp1N = pp1.length := pp1R.len1.symm
  have pp1Le := pp1R.le
  have hS := St.nil w
  have hS1 := St.rd0 hS rfl pp1R; clear hS
  refine enter (args := [.agg #[.int .i64 pp0, .slice pp1A pp1.length pp1C]]) Try.func15 rfl rfl ?_
  rw [Try.ntmps15]; intro a hE
  have hE := hE.sub (L' := [(0, .agg #[.int .i64 pp0, .slice pp1A pp1.length pp1C])]) ⟨rfl, trivial⟩
  refine c_seq ?_
  refine c_reg ?_
  refine l_step hE rfl (l_box (v := .agg #[.int .i64 pp0, .slice pp1A pp1.length pp1C]) (cs := #[.int .i64 pp0, .slice pp1A pp1.length pp1C]) hS1 hE rfl rfl rfl ?_)
  intro b2 w3 hS6 he7 a4 hE5; clear hS1 hE
  refine q_step (v := .bool false) hE5 (y_assign rfl) rfl rfl rfl ?_; intro a8 hE9; clear hE5
  refine c_nil ?_
  have hE10 := hE9.sub (L' := [(1, .pointer (some ⟨b2, 0, none⟩))]) ⟨rfl, trivial⟩; clear hE9
  refine p_tn ?_
  refine c_seq ?_
  refine c_reg ?_
  refine q_step (v := .agg #[.int .i64 pp0, .slice pp1A pp1.length pp1C]) hE10 (y_loadS Try.underlying27 rfl (by kernel_rfl) rfl (St.row (i := 0) hS6 rfl)) rfl rfl rfl ?_; intro a11 hE12; clear hE10
  refine l_step hE12 rfl (l_call (f := 50) (argv := [.agg #[.int .i64 pp0, .slice pp1A pp1.length pp1C]]) hE12 (fun _ => cf_l16Is _ _) rfl rfl (c_l16Is pp0 pp1A pp1.length pp1C pp1 w3 (St.rdR (i := 1) hS6 rfl)) ?_)
  rintro _ w14 ⟨rfl, he18⟩ a15 hE16; clear hE12
  have hS17 := St.go hS6 he18; clear hS6
  refine q_step (v := .bool (F_l16Is pp0 pp1)) hE16 (y_assign rfl) rfl rfl rfl ?_; intro a19 hE20; clear hE16
  refine c_nil ?_
  have hE21 := hE20.sub (L' := [(2, .bool (F_l16Is pp0 pp1))]) ⟨rfl, trivial⟩; clear hE20
  refine p_tn ?_
  refine wp_ret ?_
  have hF : F_s_IsPoset pp0 pp1 = F_l16Is pp0 pp1 := by unfold F_s_IsPoset; rfl
  refine c_ret1 hE21 rfl rfl ?_
  exact ⟨(by rw [hF]; first | done | rfl), hS17.ext⟩

def F_IsPoset (pp0 : Int) (pp1 : List Int) : Bool :=
  F_isPoset pp0 pp1
theorem cf_IsPoset (args : Array Value) (w : World) : (callFunc 17 args).run Try.prog w = .ok (.enter 17 args) w := by kernel_rfl
set_option maxRecDepth 100000 in
theorem c_IsPoset (pp0 : Int) (pp1A : Option Addr) (pp1N pp1C : Nat) (pp1 : List Int) (w : World) (pp1R : RdS w 1 pp1A pp1N pp1C pp1) :
    Calls Try.prog 17 #[.agg #[.int .i64 pp0, .slice pp1A pp1N pp1C]] w (Ret fun v w' => v = .bool (F_IsPoset pp0 pp1) ∧ Ext w w') := by
  obtain rfl : pp1N = pp1.length := pp1R.len1.symm
  have pp1Le := pp1R.le
  have hS := St.nil w
  have hS1 := St.rd0 hS rfl pp1R; clear hS
  refine enter (args := [.agg #[.int .i64 pp0, .slice pp1A pp1.length pp1C]]) Try.func17 rfl rfl ?_
  rw [Try.ntmps17]; intro a hE
  have hE := hE.sub (L' := [(0, .agg #[.int .i64 pp0, .slice pp1A pp1.length pp1C])]) ⟨rfl, trivial⟩
  refine c_seq ?_
  refine c_reg ?_
  refine l_step hE rfl (l_box (v := .agg #[.int .i64 pp0, .slice pp1A pp1.length pp1C]) (cs := #[.int .i64 pp0, .slice pp1A pp1.length pp1C]) hS1 hE rfl rfl rfl ?_)
  intro b2 w3 hS6 he7 a4 hE5; clear hS1 hE
  refine q_step (v := .bool false) hE5 (y_assign rfl) rfl rfl rfl ?_; intro a8 hE9; clear hE5
  refine c_nil ?_
  have hE10 := hE9.sub (L' := [(1, .pointer (some ⟨b2, 0, none⟩))]) ⟨rfl, trivial⟩; clear hE9
  refine p_tn ?_
  refine c_seq ?_
  refine c_reg ?_
  refine q_step (v := .agg #[.int .i64 pp0, .slice pp1A pp1.length pp1C]) hE10 (y_loadS Try.underlying27 rfl (by kernel_rfl) rfl (St.row (i := 0) hS6 rfl)) rfl rfl rfl ?_; intro a11 hE12; clear hE10
  refine l_step hE12 rfl (l_call (f := 51) (argv := [.agg #[.int .i64 pp0, .slice pp1A pp1.length pp1C]]) hE12 (fun _ => cf_isPoset _ _) rfl rfl (c_isPoset pp0 pp1A pp1.length pp1C pp1 w3 (St.rdR (i := 1) hS6 rfl)) ?_)
  rintro _ w14 ⟨rfl, he18⟩ a15 hE16; clear hE12
  have hS17 := St.go hS6 he18; clear hS6
  refine q_step (v := .bool (F_isPoset pp0 pp1)) hE16 (y_assign rfl) rfl rfl rfl ?_; intro a19 hE20; clear hE16
  refine c_nil ?_
  have hE21 := hE20.sub (L' := [(2, .bool (F_isPoset pp0 pp1))]) ⟨rfl, trivial⟩; clear hE20
  refine p_tn ?_
  refine wp_ret ?_
  have hF : F_IsPoset pp0 pp1 = F_isPoset pp0 pp1 := by unfold F_IsPoset; rfl
  refine c_ret1 hE21 rfl rfl ?_
  exact ⟨(by rw [hF]; first | done | rfl), hS17.ext⟩

theorem IsPoset_eq (p0 : Int) (p1 : List Int) : F_IsPoset p0 p1 = F_s_IsPoset p0 p1 := isPoset_eq p0 p1

end Go.Proofs.Ythogljcjjmclcaa
