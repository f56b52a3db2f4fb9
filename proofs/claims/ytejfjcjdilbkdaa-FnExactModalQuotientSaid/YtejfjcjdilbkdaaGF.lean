/- GF: models and contracts, printed by wip/gen/gen.py -/
import Derived.Test.YtejfjcjdilbkdaaGE
set_option linter.unusedVariables false
set_option linter.unusedSimpArgs false
namespace Go.Proofs.Ytejfjcjdilbkdaa
open Go.RowKit

def F_ModalAlgebra_isOpen (ap0 : Int) (ap1 : List Int) (xp : Int) : Bool :=
  F_within xp (gI ap1 xp)
theorem cf_ModalAlgebra_isOpen (args : Array Value) (w : World) : (callFunc 83 args).run Try.prog w = .ok (.enter 83 args) w := by kernel_rfl
set_option maxRecDepth 100000 in
theorem c_ModalAlgebra_isOpen (ap0 : Int) (ap1A : Option Addr) (ap1N ap1C : Nat) (ap1 : List Int) (xp : Int) (w : World) (ap1R : RdS w 1 ap1A ap1N ap1C ap1) (h0 : 0 ≤ xp) (h1 : xp < (ap1.length : Int)) :
    Calls Try.prog 83 #[.agg #[.int .i64 ap0, .slice ap1A ap1N ap1C], .int .i64 xp] w (Ret fun v w' => v = .bool (F_ModalAlgebra_isOpen ap0 ap1 xp) ∧ Ext w w') := by
  obtain rfl : ap1N = ap1.length := ap1R.len1.symm
  have ap1Le := ap1R.le
  have hS := St.nil w
  have hS1 := St.rd0 hS rfl ap1R; clear hS
  refine enter (args := [.agg #[.int .i64 ap0, .slice ap1A ap1.length ap1C], .int .i64 xp]) Try.func83 rfl rfl ?_
  rw [Try.ntmps83]; intro a hE
  have hE := hE.sub (L' := [(0, .agg #[.int .i64 ap0, .slice ap1A ap1.length ap1C]), (1, .int .i64 xp)]) ⟨rfl, rfl, trivial⟩
  refine c_seq ?_
  refine c_reg ?_
  refine l_step hE rfl (l_box (v := .agg #[.int .i64 ap0, .slice ap1A ap1.length ap1C]) (cs := #[.int .i64 ap0, .slice ap1A ap1.length ap1C]) hS1 hE rfl rfl rfl ?_)
  intro b2 w3 hS6 he7 a4 hE5; clear hS1 hE
  refine q_step (v := .bool false) hE5 (y_assign rfl) rfl rfl rfl ?_; intro a8 hE9; clear hE5
  refine c_nil ?_
  have hE10 := hE9.sub (L' := [(1, .int .i64 xp), (2, .pointer (some ⟨b2, 0, none⟩))]) ⟨rfl, rfl, trivial⟩; clear hE9
  refine p_tn ?_
  refine c_seq ?_
  refine c_reg ?_
  refine q_step (v := .int .i64 xp) hE10 (y_move rfl) rfl rfl rfl ?_; intro a11 hE12; clear hE10
  refine q_step (v := .pointer (some ⟨b2, 1, none⟩)) hE12 (y_field rfl (fun _ => by kernel_rfl)) rfl rfl rfl ?_; intro a13 hE14; clear hE12
  refine q_step (v := .slice ap1A ap1.length ap1C) hE14 (y_load (fun _ => by kernel_rfl) rfl (St.cell (i := 0) hS6 rfl rfl)) rfl rfl rfl ?_; intro a15 hE16; clear hE14
  refine q_step (v := .int .i64 xp) hE16 (y_move rfl) rfl rfl rfl ?_; intro a17 hE18; clear hE16
  refine q_step (v := .pointer (some (adr ap1A (Int.toNat xp)))) hE18 (y_idx (by kernel_rfl) (fun _ => by kernel_rfl) rfl rfl (RdS.isS (m := xp) (St.rdR (i := 1) hS6 rfl) (by omega) (by omega)) (by omega) (by omega) (Nat.mul_one _).symm) rfl rfl rfl ?_; intro a19 hE20; clear hE18
  refine q_step (v := .int .i64 (gI ap1 xp)) hE20 (y_load (fun _ => by kernel_rfl) rfl (RdS.elt (St.rdR (i := 1) hS6 rfl) (by omega) (by omega))) rfl rfl rfl ?_; intro a21 hE22; clear hE20
  refine l_step hE22 rfl (l_call (f := 108) (argv := [.int .i64 xp, .int .i64 (gI ap1 xp)]) hE22 (fun _ => cf_within _ _) rfl rfl (c_within xp (gI ap1 xp) w3) ?_)
  rintro _ _ ⟨rfl, rfl⟩ a25 hE26; clear hE22
  refine q_step (v := .bool (F_within xp (gI ap1 xp))) hE26 (y_assign rfl) rfl rfl rfl ?_; intro a29 hE30; clear hE26
  refine c_nil ?_
  have hE31 := hE30.sub (L' := [(4, .bool (F_within xp (gI ap1 xp)))]) ⟨rfl, trivial⟩; clear hE30
  refine p_tn ?_
  refine wp_ret ?_
  have hF : F_ModalAlgebra_isOpen ap0 ap1 xp = F_within xp (gI ap1 xp) := by unfold F_ModalAlgebra_isOpen; rfl
  refine c_ret1 hE31 rfl rfl ?_
  exact ⟨(by rw [hF]; first | done | rfl), hS6.ext⟩


end Go.Proofs.Ytejfjcjdilbkdaa
