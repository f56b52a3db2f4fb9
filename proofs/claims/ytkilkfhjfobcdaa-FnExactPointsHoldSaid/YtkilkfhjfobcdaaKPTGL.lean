/- GL: models and contracts, printed by wip/gen/gen.py -/
import Derived.Test.YtkilkfhjfobcdaaKPTGQ
set_option linter.unusedVariables false
set_option linter.unusedSimpArgs false
namespace Go.Proofs.Ytkilkfhjfobcdaa
open Go.RowKit
def F_l05World (f0 : Int) (f1 : List Int) (wp : Int) : Bool :=
  F_l01In wp 0 (f0 - 1)
theorem cf_l05World (args : Array Value) (w : World) : (callFunc 113 args).run Try.prog w = .ok (.enter 113 args) w := by kernel_rfl
set_option maxRecDepth 100000 in
theorem c_l05World (f0 : Int) (f1A : Option Addr) (f1N f1C : Nat) (f1 : List Int) (wp : Int) (w : World) (f1R : RdS w 1 f1A f1N f1C f1) (h0 : 0 ≤ f0) (h1 : f0 ≤ 8) :
    Calls Try.prog 113 #[.agg #[.int .i64 f0, .slice f1A f1N f1C], .int .i64 wp] w (Ret fun v w' => v = .bool (F_l05World f0 f1 wp) ∧ Ext w w') := by
  obtain rfl : f1N = f1.length := f1R.len1.symm
  have f1Le := f1R.le
  have hS := St.nil w
  have hS1 := St.rd0 hS rfl f1R; clear hS
  refine enter (args := [.agg #[.int .i64 f0, .slice f1A f1.length f1C], .int .i64 wp]) Try.func113 rfl rfl ?_
  rw [Try.ntmps113]; intro a hE
  have hE := hE.sub (L' := [(0, .agg #[.int .i64 f0, .slice f1A f1.length f1C]), (1, .int .i64 wp)]) ⟨rfl, rfl, trivial⟩
  refine c_seq ?_
  refine c_reg ?_
  refine l_step hE rfl (l_box (v := .agg #[.int .i64 f0, .slice f1A f1.length f1C]) (cs := #[.int .i64 f0, .slice f1A f1.length f1C]) hS1 hE rfl rfl rfl ?_)
  intro b2 w3 hS6 he7 a4 hE5; clear hS1 hE
  refine q_step (v := .bool false) hE5 (y_assign rfl) rfl rfl rfl ?_; intro a8 hE9; clear hE5
  refine c_nil ?_
  have hE10 := hE9.sub (L' := [(1, .int .i64 wp), (2, .pointer (some ⟨b2, 0, none⟩))]) ⟨rfl, rfl, trivial⟩; clear hE9
  refine p_tn ?_
  refine c_seq ?_
  refine c_reg ?_
  refine q_step (v := .int .i64 wp) hE10 (y_move rfl) rfl rfl rfl ?_; intro a11 hE12; clear hE10
  refine q_step (v := .pointer (some ⟨b2, 0, none⟩)) hE12 (y_field rfl (fun _ => by kernel_rfl)) rfl rfl rfl ?_; intro a13 hE14; clear hE12
  refine q_step (v := .int .i64 f0) hE14 (y_load (fun _ => by kernel_rfl) rfl (St.cell (i := 0) hS6 rfl rfl)) rfl rfl rfl ?_; intro a15 hE16; clear hE14
  refine q_step (v := .int .i64 (f0 - 1)) hE16 (y_sub rfl rfl ⟨(by omega), (by omega)⟩) rfl rfl rfl ?_; intro a17 hE18; clear hE16
  refine l_step hE18 rfl (l_call (f := 71) (argv := [.int .i64 wp, .int .i64 0, .int .i64 (f0 - 1)]) hE18 (fun _ => cf_l01In _ _) rfl rfl (c_l01In wp 0 (f0 - 1) w3) ?_)
  rintro _ _ ⟨rfl, rfl⟩ a21 hE22; clear hE18
  refine q_step (v := .bool (F_l01In wp 0 (f0 - 1))) hE22 (y_assign rfl) rfl rfl rfl ?_; intro a25 hE26; clear hE22
  refine c_nil ?_
  have hE27 := hE26.sub (L' := [(4, .bool (F_l01In wp 0 (f0 - 1)))]) ⟨rfl, trivial⟩; clear hE26
  refine p_tn ?_
  refine wp_ret ?_
  have hF : F_l05World f0 f1 wp = F_l01In wp 0 (f0 - 1) := by unfold F_l05World; rfl
  refine c_ret1 hE27 rfl rfl ?_
  exact ⟨(by rw [hF]; first | done | (dsimp only; done) | rfl), hS6.ext⟩
def F_Frame_hasWorld (f0 : Int) (f1 : List Int) (wp : Int) : Bool :=
  F_inRange wp 0 (f0 - 1)
theorem cf_Frame_hasWorld (args : Array Value) (w : World) : (callFunc 118 args).run Try.prog w = .ok (.enter 118 args) w := by kernel_rfl
set_option maxRecDepth 100000 in
theorem c_Frame_hasWorld (f0 : Int) (f1A : Option Addr) (f1N f1C : Nat) (f1 : List Int) (wp : Int) (w : World) (f1R : RdS w 1 f1A f1N f1C f1) (h0 : 0 ≤ f0) (h1 : f0 ≤ 8) :
    Calls Try.prog 118 #[.agg #[.int .i64 f0, .slice f1A f1N f1C], .int .i64 wp] w (Ret fun v w' => v = .bool (F_Frame_hasWorld f0 f1 wp) ∧ Ext w w') := by
  obtain rfl : f1N = f1.length := f1R.len1.symm
  have f1Le := f1R.le
  have hS := St.nil w
  have hS1 := St.rd0 hS rfl f1R; clear hS
  refine enter (args := [.agg #[.int .i64 f0, .slice f1A f1.length f1C], .int .i64 wp]) Try.func118 rfl rfl ?_
  rw [Try.ntmps118]; intro a hE
  have hE := hE.sub (L' := [(0, .agg #[.int .i64 f0, .slice f1A f1.length f1C]), (1, .int .i64 wp)]) ⟨rfl, rfl, trivial⟩
  refine c_seq ?_
  refine c_reg ?_
  refine l_step hE rfl (l_box (v := .agg #[.int .i64 f0, .slice f1A f1.length f1C]) (cs := #[.int .i64 f0, .slice f1A f1.length f1C]) hS1 hE rfl rfl rfl ?_)
  intro b2 w3 hS6 he7 a4 hE5; clear hS1 hE
  refine q_step (v := .bool false) hE5 (y_assign rfl) rfl rfl rfl ?_; intro a8 hE9; clear hE5
  refine c_nil ?_
  have hE10 := hE9.sub (L' := [(1, .int .i64 wp), (2, .pointer (some ⟨b2, 0, none⟩))]) ⟨rfl, rfl, trivial⟩; clear hE9
  refine p_tn ?_
  refine c_seq ?_
  refine c_reg ?_
  refine q_step (v := .int .i64 wp) hE10 (y_move rfl) rfl rfl rfl ?_; intro a11 hE12; clear hE10
  refine q_step (v := .pointer (some ⟨b2, 0, none⟩)) hE12 (y_field rfl (fun _ => by kernel_rfl)) rfl rfl rfl ?_; intro a13 hE14; clear hE12
  refine q_step (v := .int .i64 f0) hE14 (y_load (fun _ => by kernel_rfl) rfl (St.cell (i := 0) hS6 rfl rfl)) rfl rfl rfl ?_; intro a15 hE16; clear hE14
  refine q_step (v := .int .i64 (f0 - 1)) hE16 (y_sub rfl rfl ⟨(by omega), (by omega)⟩) rfl rfl rfl ?_; intro a17 hE18; clear hE16
  refine l_step hE18 rfl (l_call (f := 75) (argv := [.int .i64 wp, .int .i64 0, .int .i64 (f0 - 1)]) hE18 (fun _ => cf_inRange _ _) rfl rfl (c_inRange wp 0 (f0 - 1) w3) ?_)
  rintro _ _ ⟨rfl, rfl⟩ a21 hE22; clear hE18
  refine q_step (v := .bool (F_inRange wp 0 (f0 - 1))) hE22 (y_assign rfl) rfl rfl rfl ?_; intro a25 hE26; clear hE22
  refine c_nil ?_
  have hE27 := hE26.sub (L' := [(4, .bool (F_inRange wp 0 (f0 - 1)))]) ⟨rfl, trivial⟩; clear hE26
  refine p_tn ?_
  refine wp_ret ?_
  have hF : F_Frame_hasWorld f0 f1 wp = F_inRange wp 0 (f0 - 1) := by unfold F_Frame_hasWorld; rfl
  refine c_ret1 hE27 rfl rfl ?_
  exact ⟨(by rw [hF]; first | done | (dsimp only; done) | rfl), hS6.ext⟩
end Go.Proofs.Ytkilkfhjfobcdaa
