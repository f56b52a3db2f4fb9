/- GD: models and contracts, printed by wip/gen/gen.py -/
import Derived.Test.YtkilkfhjfobcdaaKCHGC
set_option linter.unusedVariables false
set_option linter.unusedSimpArgs false
namespace Go.Proofs.Ytkilkfhjfobcdaa
open Go.RowKit
def F_frameOf (arrows : List Int) : Int × List Int :=
  ((arrows.length : Int), arrows)
theorem cf_frameOf (args : Array Value) (w : World) : (callFunc 186 args).run Try.prog w = .ok (.enter 186 args) w := by kernel_rfl
set_option maxRecDepth 100000 in
theorem c_frameOf (arrowsA : Option Addr) (arrowsN arrowsC : Nat) (arrows : List Int) (w : World) (arrowsR : RdS w 1 arrowsA arrowsN arrowsC arrows) :
    Calls Try.prog 186 #[.slice arrowsA arrowsN arrowsC] w (Ret fun v w' => v = .agg #[.int .i64 ((F_frameOf arrows).1), .slice arrowsA arrowsN arrowsC] ∧ Ext w w') := by
  obtain rfl : arrowsN = arrows.length := arrowsR.len1.symm
  have arrowsLe := arrowsR.le
  have hS := St.nil w
  have hS1 := St.rd0 hS rfl arrowsR; clear hS
  refine enter (args := [.slice arrowsA arrows.length arrowsC]) Try.func186 rfl rfl ?_
  rw [Try.ntmps186]; intro a hE
  have hE := hE.sub (L' := [(0, .slice arrowsA arrows.length arrowsC)]) ⟨rfl, trivial⟩
  refine c_seq ?_
  refine c_reg ?_
  refine l_step hE rfl (l_alloc (z := .agg #[.int .i64 0, .slice none 0 0]) (cs := #[.int .i64 0, .slice none 0 0]) hS1 hE (fun _ => by kernel_rfl) rfl rfl ?_)
  intro b2 w3 hS6 he7 a4 hE5; clear hS1 hE
  refine c_nil ?_
  have hE8 := hE5.sub (L' := [(0, .slice arrowsA arrows.length arrowsC), (2, .pointer (some ⟨b2, 0, none⟩))]) ⟨rfl, rfl, trivial⟩; clear hE5
  refine p_tn ?_
  refine c_seq ?_
  refine c_reg ?_
  refine q_step (v := .slice arrowsA arrows.length arrowsC) hE8 (y_move rfl) rfl rfl rfl ?_; intro a9 hE10; clear hE8
  refine l_step hE10 rfl (l_call (f := 168) (argv := [.slice arrowsA arrows.length arrowsC]) hE10 (fun _ => cf_size _ _) rfl rfl (d_size arrowsA arrows.length arrowsC arrows w3 (St.rdR (i := 1) hS6 rfl)) ?_)
  rintro _ _ ⟨rfl, rfl⟩ a13 hE14; clear hE10
  refine q_step (v := .slice arrowsA arrows.length arrowsC) hE14 (y_move rfl) rfl rfl rfl ?_; intro a17 hE18; clear hE14
  refine q_step (v := .agg #[.int .i64 (arrows.length : Int), .slice arrowsA arrows.length arrowsC]) hE18 (y_build (vs := #[(0, .int .i64 (arrows.length : Int)), (1, .slice arrowsA arrows.length arrowsC)]) (fun a n hE => by simp only [hE.eval (x := .tmp 4) (v := .int .i64 (arrows.length : Int)) rfl, hE.eval (x := .tmp 5) (v := .slice arrowsA arrows.length arrowsC) rfl, List.map_toArray, List.map_cons, List.map_nil]) (fun _ => by kernel_rfl)) rfl rfl rfl ?_; intro a19 hE20; clear hE18
  refine l_step hE20 rfl (l_storeS (k := 0) (cs' := #[.int .i64 (arrows.length : Int), .slice arrowsA arrows.length arrowsC]) hS6 hE20 (by kernel_rfl) rfl rfl (by kernel_rfl) rfl rfl ?_)
  intro w22 hS25 a23 hE24; clear hS6 hE20
  refine c_nil ?_
  have hE27 := hE24.sub (L' := [(2, .pointer (some ⟨b2, 0, none⟩))]) ⟨rfl, trivial⟩; clear hE24
  refine p_tn ?_
  refine wp_ret ?_
  have hF : F_frameOf arrows = ((arrows.length : Int), arrows) := by unfold F_frameOf; rfl
  refine c_retC hE27 rfl rfl Try.underlying57 rfl (by kernel_rfl) (St.row (i := 0) hS25 rfl _ (Ext.refl _)) ?_
  exact ⟨(by rw [hF]; first | done | (dsimp only; done) | rfl), hS25.ext⟩
end Go.Proofs.Ytkilkfhjfobcdaa
